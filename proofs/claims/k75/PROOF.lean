import PyProof.Rows.All
import Wide.All
import OpenK.AllK
import Wide.FinOn
import PySem.Str
import HandS.ForMost
import HandS.ForExc
import HandS.Comp
import HandS.TupAny
import HandS.TupLe
import PyProof.P3In
import KE.SortData
import PyProof.ReprRoads
import HandS.TupLen
import HandS.WordsDict
import HandS.Conv
import HandS.Text
import KE.KDictSum
import PyProof.Transfer
import HandS.IsInst
import PyProof.Rows.Chain
import HandS.Deep
import HandS.ExcOwn
import HandS.DictComp
import PyProof.DictRoadsH
import HandS.Defaults
import HandS.Dict
import KE.GoesEnum
import HandS.Ends
import HandS.HeadHook2
import HandS.Words
import HandS.WordsExc
import HandS.Head2
import PySem.Challenge.RW_joinorbar_k75_whole_neighbours_and_sides
section
set_option Elab.async false
set_option linter.all false
/-! EvD: values as trees, a small language, its evaluator. Plain Lean; no heap. -/
namespace Ev
open PySem (Str)

/-! ### values -/
inductive D where
  | non | bl (b : Bool) | int (i : Int) | str (s : Str)
  | tup (xs : List D) | ktp (xs : List D) | lst (xs : List D) | dct (t : Bool) (kvs : List (D × D))
  | fn (f : Nat)
  deriving Inhabited

def LIM : Nat := 16777216

mutual
/-- Python's ==, of data without dicts and functions -/
def eqD : D → D → Bool
  | .non, .non => true
  | .bl a, .bl b => a == b
  | .bl a, .int j => (if a then 1 else 0) == j
  | .int i, .bl b => i == (if b then 1 else 0)
  | .int i, .int j => i == j
  | .str x, .str y => decide (x = y)
  | .lst xs, .lst ys => eqAll xs ys
  | .tup xs, .tup ys => eqAll xs ys
  | .tup xs, .ktp ys => eqAll xs ys
  | .ktp xs, .tup ys => eqAll xs ys
  | .ktp xs, .ktp ys => eqAll xs ys
  | _, _ => false
def eqAll : List D → List D → Bool
  | [], [] => true
  | x :: xs, y :: ys => eqD x y && eqAll xs ys
  | _, _ => false
end

mutual
/-- data without dicts and functions, at most n deep -/
def plainN : Nat → D → Bool
  | _, .non => true
  | _, .bl _ => true
  | _, .int _ => true
  | _, .str s => s.cps.all (· < 0x110000)
  | n, .tup xs => match n with | 0 => false | n + 1 => plainAll n xs
  | n, .ktp xs => match n with | 0 => false | n + 1 => plainAll n xs
  | n, .lst xs => match n with | 0 => false | n + 1 => plainAll n xs
  | _, .dct _ _ => false
  | _, .fn _ => false
def plainAll : Nat → List D → Bool
  | _, [] => true
  | n, x :: xs => plainN n x && plainAll n xs
end
def plain (d : D) : Bool := plainN 40 d

mutual
/-- two that can be ordered, place by place -/
def alikeD : D → D → Bool
  | .non, .non => true
  | .bl _, .bl _ => true
  | .int _, .int _ => true
  | .str _, .str _ => true
  | .lst xs, .lst ys => alikeL xs ys
  | .tup xs, .tup ys => alikeL xs ys
  | _, _ => false
def alikeL : List D → List D → Bool
  | x :: xs, y :: ys => alikeD x y && alikeL xs ys
  | [], _ => true
  | _ :: _, [] => true
end
def ltNats : List Nat → List Nat → Bool
  | [], [] => false
  | [], _ :: _ => true
  | _ :: _, [] => false
  | a :: as, b :: bs => if a < b then true else if b < a then false else ltNats as bs
mutual
/-- Python's <, of alike data -/
def ltD : D → D → Bool
  | .bl a, .bl b => !a && b
  | .int i, .int j => decide (i < j)
  | .str x, .str y => ltNats x.cps.toList y.cps.toList
  | .lst xs, .lst ys => ltL xs ys
  | .tup xs, .tup ys => ltL xs ys
  | _, _ => false
def ltL : List D → List D → Bool
  | [], [] => false
  | [], _ :: _ => true
  | _ :: _, [] => false
  | x :: xs, y :: ys => if eqD x y then ltL xs ys else ltD x y
end
/-- sorting, stable -/
def ins (x : D) : List D → List D
  | [] => [x]
  | y :: ys => if ltD y x then y :: ins x ys else x :: y :: ys
def isort : List D → List D
  | [] => []
  | x :: xs => ins x (isort xs)
def allAlike (xs : List D) : Bool := xs.all fun x => xs.all fun y => alikeD x y
/-- all tuples that aren't empty, or no tuple and no None -/
def sortable (xs : List D) : Bool :=
  (xs.all fun x => match x with | .tup (_ :: _) => true | _ => false) || (xs.all fun x => match x with | .tup _ => false | .ktp _ => false | .non => false | _ => true)

/-! ### dicts -/
/-- a key's kind: an int or a text; a tuple of such -/
def isKey0 : D → Bool
  | .int _ => true
  | .str _ => true
  | _ => false
def isKeyT : D → Bool
  | .tup xs => xs.all isKey0
  | _ => false
def keyEq : D → D → Bool := eqD
def dget (k : D) : List (D × D) → Option D
  | [] => none
  | (j, v) :: r => if keyEq j k then some v else dget k r
def dput (k v : D) (es : List (D × D)) : List (D × D) := if es.any fun e => keyEq e.1 k then es.map fun e => if keyEq e.1 k then (e.1, v) else e else es ++ [(k, v)]
/-- a key that fits a dict -/
def keyFits (t : Bool) (k : D) : Bool := if t then isKeyT k else isKey0 k

/-- one entry behind the other -/
def dputs (t : Bool) : List (D × D) → List (D × D) → Option (List (D × D))
  | [], acc => some acc
  | (k, v) :: r, acc => if keyFits t k && decide (acc.length < LIM) then dputs t r (dput k v acc) else none

/-- what a display's parts make -/
def dmake (t : Bool) : List D → List (D × D) → Option (List (D × D))
  | [], acc => some acc
  | .tup [k, v] :: r, acc => if keyFits t k && decide (acc.length < LIM) then dmake t r (dput k v acc) else none
  | .dct t' es :: r, acc => if t == t' && decide (acc.length + es.length ≤ LIM) then (match dputs t es acc with
    | some acc' => dmake t r acc'
    | none => none) else none
  | _ :: _, _ => none

/-! ### the language -/
inductive Bop where | add | sub | mul | fdiv | mod | pow deriving DecidableEq
inductive Cop where | eq | ne | lt | le | gt | ge | isin | notin | is | isnot deriving DecidableEq
/-- built-ins called by name; what they do is told by values -/
inductive Bi where | len | list | tuple | sorted | all | any | min | max | sum | abs | int | str | bool | repr | gcd | lcm | comb | set deriving DecidableEq
/-- methods that change nothing -/
inductive Mt where | index | count | items | get | join | split | startswith | endswith | upper | replace deriving DecidableEq
/-- methods that change their list, dict -/
inductive Mu where | append | extend | pop | update | setdefault deriving DecidableEq
inductive Ty where | int | bool | str | tuple | list | dict deriving DecidableEq
/-- targets: names -/
inductive G where | nm (i : Nat) (own : Bool) | nil | cons (a b : G) | tup (l : G)
inductive E where
  | nil | cons (a b : E) | star (a : E)
  | var (i : Nat) | bor (i : Nat) | lend (i : Nat) | give (a : E)
  | int (i : Int) | bl (b : Bool) | non | str (s : Str) | glob (n : Nat)
  | bin (o : Bop) (a b : E) | neg (a : E) | not (a : E)
  | cmp (a l : E) | link (o : Cop) (b r : E)
  | and (a b : E) | or (a b : E) | ite (c a b : E)
  | tup (l : E) | lst (l : E)
  | ix (a i : E) | sl (a lo hi : E) | rev (a : E) | lrng (l : E) | trng (l : E) | sset (a : E)
  | call (f : Nat) (l : E) | callK (f : Nat) (l : E) (perm : List Nat) | callV (a l : E)
  | bi (b : Bi) (l : E) | divmod (a b : E) | mt (m : Mt) (a l : E) | mu (m : Mu) (i : Nat) (l : E)
  | isi (a : E) (t : Ty)
  | lc (g : G) (it ifs elt : E) (vs : List Nat)
  | lc2 (g : G) (it ifs : E) (g1 : G) (it1 ifs1 elt : E) (vs vs1 : List Nat)
  | dc (t : Bool) (g : G) (it ifs k v : E) (vs : List Nat)
  | itP (a : E) | itR (l : E) | itE (a : E) | itZ (a b : E) | itI (a : E)
  | dnil | dkv (k v r : E) | dun (a r : E) | dds (t : Bool) (l : E)

/-! ### states -/
/-- what a name holds: a value; a list or dict of its own, that may be changed; one that was lent to be changed; one that was lent to be read -/
inductive Slot where | fz (d : D) | ow (d : D) | ln (d : D) | lk (d : D)
def Slot.d : Slot → D
  | .fz d => d | .ow d => d | .ln d => d | .lk d => d
abbrev Env := List (Option Slot)
def slot (ρ : Env) (i : Nat) : Option Slot := match ρ[i]? with
  | some s => s
  | none => none
/-- what an expression gives: a value; a new list or dict that nobody else holds; what stands in a name; a list of such; things to be walked, and the name that is locked meanwhile -/
inductive Rs where
  | fz (d : D) | fr (d : D) | sl (i : Nat) | bo (i : Nat) | le (i : Nat) | gv (d : D)
  | st (ds : List D) | ls (l : List Rs) | its (l : List D) (k : Option Nat)
/-- c: the class of an exception; d: what it holds -/
inductive R where
  | ok (r : Rs) (ρ : Env) | ex (c : Nat) (d : D) (ρ : Env) | no
def R.b1 (r : R) (k : Rs → Env → R) : R := match r with
  | .ok r ρ => (match r with
    | .fz d => k (.fz d) ρ
    | .fr d => k (.fr d) ρ
    | .sl i => k (.sl i) ρ
    | _ => .no)
  | .ex c d ρ => .ex c d ρ
  | .no => .no
/-- a part of a list: a value, several, or what is lent -/
def R.ba (r : R) (k : List Rs → Env → R) : R := match r with
  | .ok r ρ => (match r with
    | .st ds => k (ds.map .fz) ρ
    | .ls _ => .no
    | .its _ _ => .no
    | r => k [r] ρ)
  | .ex c d ρ => .ex c d ρ
  | .no => .no
/-- to read -/
def rd (r : Rs) (ρ : Env) : Option D := match r with
  | .fz d => some d
  | .fr d => some d
  | .sl i => (slot ρ i).map Slot.d
  | _ => none
/-- a part's bound, or none -/
def R.bo (r : R) (k : Option Int → Env → R) : R := match r with
  | .ok r ρ => (match r with
    | .ls [] => k none ρ
    | r => (match rd r ρ with
      | some (.int i) => k (some i) ρ
      | _ => .no))
  | .ex c d ρ => .ex c d ρ
  | .no => .no
def R.bl (r : R) (k : List Rs → Env → R) : R := match r with
  | .ok (.ls l) ρ => k l ρ
  | .ok _ _ => .no
  | .ex c d ρ => .ex c d ρ
  | .no => .no
def R.bi (r : R) (k : List D → Option Nat → Env → R) : R := match r with
  | .ok (.its l n) ρ => k l n ρ
  | .ok _ _ => .no
  | .ex c d ρ => .ex c d ρ
  | .no => .no
/-- to keep: a name's own list stands still from now on -/
def tk (r : Rs) (ρ : Env) : Option (D × Env) := match r with
  | .fz d => some (d, ρ)
  | .fr d => some (d, ρ)
  | .sl i => (match slot ρ i with
    | some (.fz d) => some (d, ρ)
    | some (.ow d) => some (d, ρ.set i (some (.fz d)))
    | _ => none)
  | _ => none
def rdAll : List Rs → Env → Option (List D)
  | [], _ => some []
  | r :: l, ρ => match rd r ρ, rdAll l ρ with
    | some d, some ds => some (d :: ds)
    | _, _ => none
def tkAll : List Rs → Env → Option (List D × Env)
  | [], ρ => some ([], ρ)
  | r :: l, ρ => match tk r ρ with
    | some (d, ρ1) => (match tkAll l ρ1 with
      | some (ds, ρ2) => some (d :: ds, ρ2)
      | none => none)
    | none => none

/-! ### operators by values -/
def P64 : Int := 18446744073709551616
def small (i : Int) : Bool := decide (-P64 < i) && decide (i < P64)
def addD : D → D → Option Rs
  | .int i, .int j => some (.fz (.int (i + j)))
  | .str a, .str b => if a.cps.size + b.cps.size ≤ LIM then some (.fz (.str ⟨a.cps ++ b.cps⟩)) else none
  | .lst a, .lst b => if a.length + b.length ≤ LIM then some (.fr (.lst (a ++ b))) else none
  | .tup a, .tup b => if a.length + b.length ≤ LIM then some (.fz (.tup (a ++ b))) else none
  | _, _ => none
def intD (f : Int → Int → Option Int) : D → D → Option Rs
  | .int i, .int j => (f i j).map fun k => .fz (.int k)
  | _, _ => none
def binD (o : Bop) (x y : D) : Option Rs := match o with
  | .add => addD x y
  | .sub => intD (fun i j => some (i - j)) x y
  | .mul => intD (fun i j => if small i || small j then some (i * j) else none) x y
  | .fdiv => intD (fun i j => if decide (0 < j) && decide (j < 1073741824) then some (i / j) else none) x y
  | .mod => intD (fun i j => if decide (0 < j) then some (i % j) else none) x y
  | .pow => intD (fun i j => if decide (0 ≤ j) && decide (j ≤ 1000000) && decide (i.natAbs < 18446744073709551616) then some (i ^ j.toNat) else none) x y
/-- the index of an item -/
def ixD (n : Nat) (i : Int) : Option Nat := if i < 0 then (if i + n < 0 then none else some (i + n).toNat) else if i.toNat < n then some i.toNat else none
/-- a part's bound -/
def partD (n : Nat) (i : Int) : Nat := if i < 0 then (i + n).toNat else min i.toNat n
def isIn (x : D) (ys : List D) : Bool := ys.any fun y => eqD y x
def occurs (a b : List Nat) : Bool := match b with
  | [] => a.isEmpty
  | _ :: bs => a.isPrefixOf b || occurs a bs
def cmpD (o : Cop) (x y : D) : Option Bool := match o with
  | .eq => (match x, y with
    | .str a, .str b => some (decide (a = b))
    | _, _ => if plain x && plain y then some (eqD x y) else none)
  | .ne => (match x, y with
    | .str a, .str b => some (!decide (a = b))
    | _, _ => if plain x && plain y then some (!eqD x y) else none)
  | .lt => (match x, y with
    | .int i, .int j => some (decide (i < j))
    | _, _ => none)
  | .le => (match x, y with
    | .int i, .int j => some (decide (i ≤ j))
    | _, _ => none)
  | .gt => (match x, y with
    | .int i, .int j => some (decide (j < i))
    | _, _ => none)
  | .ge => (match x, y with
    | .int i, .int j => some (decide (j ≤ i))
    | _, _ => none)
  | .isin => (match y with
    | .lst ys => if plain x && plain y then some (isIn x ys) else none
    | .tup ys => if plain x && plain y then some (isIn x ys) else none
    | .ktp ys => if plain x && plain y then some (isIn x ys) else none
    | .dct t kvs => if keyFits t x then some (dget x kvs).isSome else none
    | _ => none)
  | .notin => (match y with
    | .lst ys => if plain x && plain y then some (!isIn x ys) else none
    | .tup ys => if plain x && plain y then some (!isIn x ys) else none
    | .ktp ys => if plain x && plain y then some (!isIn x ys) else none
    | .dct t kvs => if keyFits t x then some (!(dget x kvs).isSome) else none
    | _ => none)
  | .is => (match x, y with
    | .non, .non => some true
    | _, .non => some false
    | .bl a, .bl b => some (a == b)
    | _, _ => none)
  | .isnot => (match x, y with
    | .non, .non => some false
    | _, .non => some true
    | .bl a, .bl b => some (!(a == b))
    | _, _ => none)
def truD : D → Option Bool
  | .non => some false
  | .bl b => some b
  | .int i => some (i != 0)
  | .str s => if s.cps.size ≤ LIM then some (s.cps.size != 0) else none
  | .lst xs => some !xs.isEmpty
  | .tup xs => some !xs.isEmpty
  | .ktp xs => some !xs.isEmpty
  | .dct _ _ => none
  | .fn _ => none
def itemD (x i : D) : Option D := match x, i with
  | .lst xs, .int i => (ixD xs.length i).bind fun j => xs[j]?
  | .tup xs, .int i => (ixD xs.length i).bind fun j => xs[j]?
  | .ktp xs, .int i => (ixD xs.length i).bind fun j => xs[j]?
  | .str s, .int i => if s.cps.size ≤ LIM then (ixD s.cps.size i).bind fun j => (s.cps.toList[j]?).map fun c => .str ⟨#[c]⟩ else none
  | .dct t kvs, k => if keyFits t k then dget k kvs else none
  | _, _ => none
def partOf {α : Type} (xs : List α) (lo hi : Option Int) : List α :=
  let a := match lo with | none => 0 | some i => partD xs.length i
  let b := match hi with | none => xs.length | some i => partD xs.length i
  (xs.drop a).take (b - a)
def sliceD (x : D) (lo hi : Option Int) : Option Rs := match x with
  | .lst xs => some (.fr (.lst (partOf xs lo hi)))
  | .tup xs => some (.fz (.tup (partOf xs lo hi)))
  | .str s => if s.cps.size ≤ LIM then some (.fz (.str ⟨(partOf s.cps.toList lo hi).toArray⟩)) else none
  | _ => none
def boolsD : List D → Option (List Bool)
  | [] => some []
  | .bl b :: r => (boolsD r).map (b :: ·)
  | _ => none
def intsD : List D → Option (List Int)
  | [] => some []
  | .int i :: r => (intsD r).map (i :: ·)
  | _ => none
def minL : Int → List Int → Int
  | m, [] => m
  | m, x :: r => minL (if x < m then x else m) r
def maxL : Int → List Int → Int
  | m, [] => m
  | m, x :: r => maxL (if m < x then x else m) r
/-- the items that a walk meets -/
def itemsD : D → Option (List D)
  | .lst xs => some xs
  | .tup xs => some xs
  | .ktp xs => some xs
  | _ => none
def upTo (lo : Int) : Nat → List D
  | 0 => []
  | n + 1 => .int lo :: upTo (lo + 1) n
def P62 : Int := 4611686018427387904
def rangeD : List D → Option (List D)
  | [.int j] => if decide (-P62 ≤ j) && decide (j < P62) then some (upTo 0 j.toNat) else none
  | [.int i, .int j] => if decide (-P62 ≤ i) && decide (i < P62) && decide (-P62 ≤ j) && decide (j < P62) then some (upTo i (j - i).toNat) else none
  | _ => none
def rangeA : List D → Option (List D)
  | [.int i, .int j, .int c] => if decide (-P62 ≤ i) && decide (i < P62) && decide (-P62 ≤ j) && decide (j < P62) && decide (c = -1) then some ((upTo (j + 1) (i - j).toNat).reverse) else none
  | l => rangeD l
def numbered : Nat → List D → List D
  | _, [] => []
  | n, x :: r => .tup [.int n, x] :: numbered (n + 1) r
def zipD : List D → List D → List D
  | x :: xs, y :: ys => .tup [x, y] :: zipD xs ys
  | _, _ => []
def keysUniq : List D → List (D × D) → List (D × D)
  | [], acc => acc
  | k :: r, acc => keysUniq r (dput k .non acc)

def bLen : List D → Option Rs
  | [.lst xs] => some (.fz (.int xs.length))
  | [.tup xs] => some (.fz (.int xs.length))
  | [.ktp xs] => some (.fz (.int xs.length))
  | [.str s] => if s.cps.size ≤ LIM then some (.fz (.int s.cps.size)) else none
  | [.dct _ kvs] => some (.fz (.int kvs.length))
  | _ => none
def bList : List D → Option Rs
  | [.lst xs] => some (.fr (.lst xs))
  | [.tup xs] => some (.fr (.lst xs))
  | _ => none
def bTuple : List D → Option Rs
  | [.lst xs] => some (.fz (.tup xs))
  | [.tup xs] => some (.fz (.tup xs))
  | _ => none
def sortD (xs : List D) : Option Rs := if plain (.lst xs) && allAlike xs && sortable xs then some (.fr (.lst (isort xs))) else none
def bSorted : List D → Option Rs
  | [.lst xs] => sortD xs
  | [.dct _ kvs] => sortD (kvs.map (·.1))
  | _ => none
def bAll : List D → Option Rs
  | [.lst xs] => (boolsD xs).map fun bs => .fz (.bl (bs.all id))
  | _ => none
def bAny : List D → Option Rs
  | [.lst xs] => (boolsD xs).map fun bs => .fz (.bl (bs.any id))
  | _ => none
def bMin : List D → Option Rs
  | [.int i, .int j] => some (.fz (.int (if j < i then j else i)))
  | [.lst xs] => (match intsD xs with
    | some (m :: r) => some (.fz (.int (minL m r)))
    | _ => none)
  | _ => none
def bMax : List D → Option Rs
  | [.int i, .int j] => some (.fz (.int (if j > i then j else i)))
  | [.lst xs] => (match intsD xs with
    | some (m :: r) => some (.fz (.int (maxL m r)))
    | _ => none)
  | _ => none
def bSum : List D → Option Rs
  | [.lst xs] => (intsD xs).map fun is => .fz (.int is.sum)
  | _ => none
def bAbs : List D → Option Rs
  | [.int i] => some (.fz (.int (if i < 0 then -i else i)))
  | _ => none
def bInt : List D → Option Rs
  | [.int i] => some (.fz (.int i))
  | [.bl b] => some (.fz (.int (if b then 1 else 0)))
  | _ => none
def bRepr (rep : D → Option Str) : List D → Option Rs
  | [d] => (rep d).map fun x => .fz (.str x)
  | _ => none
/-- rep: the text of repr -/
def biD (rep : D → Option Str) (b : Bi) (l : List D) : Option Rs := match b with
  | .len => bLen l | .list => bList l | .tuple => bTuple l | .sorted => bSorted l | .all => bAll l | .any => bAny l | .min => bMin l | .max => bMax l
  | .sum => bSum l | .abs => bAbs l | .int => bInt l | .repr => bRepr rep l | _ => none
/-- each once -/
def uniq : List D → List D
  | [] => []
  | x :: r => if isIn x r then uniq r else x :: uniq r
def indexOf (x : D) : List D → Option Nat
  | [] => none
  | y :: r => if eqD y x then some 0 else (indexOf x r).map (· + 1)
def mtD (m : Mt) (x : D) (l : List D) : Option Rs := match m, x, l with
  | .index, .lst ys, [d] => if plain d && plain x then (indexOf d ys).map fun (n : Nat) => .fz (.int (n : Int)) else none
  | .get, .dct t kvs, [k] => if keyFits t k then some (.fz ((dget k kvs).getD .non)) else none
  | .get, .dct t kvs, [k, d] => if keyFits t k then some (.fz ((dget k kvs).getD d)) else none
  | _, _, _ => none
/-- what a method that changes its list gives, and leaves -/
def muD (m : Mu) (x : D) (l : List D) : Option (D × D) := match m, x, l with
  | .append, .lst xs, [d] => if xs.length < LIM then some (.non, .lst (xs ++ [d])) else none
  | .extend, .lst xs, [.lst ys] => if xs.length + ys.length ≤ LIM then some (.non, .lst (xs ++ ys)) else none
  | .pop, .lst xs, [] => (xs[xs.length - 1]?).map fun d => (d, .lst xs.dropLast)
  | _, _, _ => none
def isLst : D → Bool
  | .lst _ => true
  | _ => false
theorem mtD_index {x : D} {l : List D} {r : Rs} (h : mtD .index x l = some r) : ∃ ys d n, x = .lst ys ∧ l = [d] ∧ plain d = true ∧ plain (.lst ys) = true ∧ indexOf d ys = some n ∧ r = .fz (.int (n : Nat)) := by
  cases x with
  | lst ys =>
    match l, h with
    | [d], h =>
      by_cases hp : (plain d && plain (.lst ys)) = true
      · have h' : (if plain d && plain (.lst ys) then (indexOf d ys).map fun (n : Nat) => Rs.fz (.int (n : Int)) else none) = some r := h
        rw [if_pos hp] at h'
        rw [Bool.and_eq_true] at hp
        obtain ⟨n, h1, h2⟩ := Option.map_eq_some_iff.mp h'
        exact ⟨ys, d, n, rfl, rfl, hp.1, hp.2, h1, h2.symm⟩
      · have h' : (if plain d && plain (.lst ys) then (indexOf d ys).map fun (n : Nat) => Rs.fz (.int (n : Int)) else none) = some r := h
        rw [if_neg hp] at h'
        cases h'
    | [], h => cases h
    | _ :: _ :: _, h => cases h
  | _ => cases h
/-- what has the method -/
def mtAt : Mt → D → Bool
  | .index, .lst _ => true
  | .get, .dct _ _ => true
  | _, _ => false
/-- xs[i] = v, d[k] = v -/
def setD (x i v : D) : Option D := match x, i with
  | .lst xs, .int i => (ixD xs.length i).map fun j => .lst (xs.set j v)
  | .dct t kvs, k => if keyFits t k && decide (kvs.length < LIM) then some (.dct t (dput k v kvs)) else none
  | _, _ => none
def isiD (x : D) (t : Ty) : Option Bool := match t, x with
  | _, .fn _ => none
  | _, .dct true _ => none
  | .int, .int _ => some true
  | .int, .bl _ => some true
  | .bool, .bl _ => some true
  | .str, .str _ => some true
  | .tuple, .tup _ => some true
  | .tuple, .ktp _ => some true
  | .list, .lst _ => some true
  | .dict, .dct _ _ => some true
  | _, _ => some false

/-! ### targets that are names -/
/-- put a value in a name; what was lent to be changed isn't forgotten -/
def putS (i : Nat) (s : Slot) (ρ : Env) : Option Env := match ρ[i]? with
  | some (some (.ln _)) => none
  | some _ => some (ρ.set i (some s))
  | none => none
def asgG : G → D → Bool → Env → Option Env
  | .nm i own, d, fr, ρ => putS i (if own && fr then (match d with | .lst _ => .ow d | .dct _ _ => .ow d | _ => .fz d) else .fz d) ρ
  | .tup l, .tup ds, _, ρ => asgGs l ds ρ
  | .tup l, .ktp ds, _, ρ => asgGs l ds ρ
  | _, _, _, _ => none
where asgGs : G → List D → Env → Option Env
  | .nil, [], ρ => some ρ
  | .cons g gs, d :: ds, ρ => (match asgG g d false ρ with
    | some ρ1 => asgGs gs ds ρ1
    | none => none)
  | _, _, _ => none

/-! ### locks -/
def lock (k : Option Nat) (ρ : Env) : Env := match k with
  | some j => (match slot ρ j with
    | some s => ρ.set j (some (.lk s.d))
    | none => ρ)
  | none => ρ
/-- the lock of a name is taken back: what it was ahead of it -/
def unlock (k : Option Nat) (ρ0 ρ : Env) : Env := match k with
  | some j => (match slot ρ0 j, slot ρ j with
    | some s, some (.lk _) => ρ.set j (some s)
    | _, _ => ρ)
  | none => ρ
def needLock : Slot → Bool
  | .ow _ => true
  | .ln _ => true
  | _ => false
/-- a walk over what an expression gives -/
def walkOf (r : Rs) (ρ : Env) : Option (List D × Option Nat) := match rd r ρ with
  | some d => (match itemsD d with
    | some l => (match r with
      | .sl j => (match slot ρ j with
        | some s => some (l, if needLock s then some j else none)
        | none => none)
      | _ => some (l, none))
    | none => none)
  | none => none

/-! ### the names of a comprehension -/
def hide (vs : List Nat) (ρ : Env) : Env := match vs with
  | [] => ρ
  | v :: r => (hide r ρ).set v none
/-- back to the names as they were -/
def back (vs : List Nat) (ρ0 ρ : Env) : Env := match vs with
  | [] => ρ
  | v :: r => (back r ρ0 ρ).set v (slot ρ0 v)

/-- what a call gives: whether it is new, the value, what was lent; an exception, likewise -/
inductive RC where
  | ok (fr : Bool) (d : D) (outs : List D) | ex (c : Nat) (d : D) (outs : List D) | no
/-- what is handed to a def -/
def argOf : Rs → Env → Option (Slot × Env)
  | .bo i, ρ => (match slot ρ i with
      | some s => some (Slot.lk s.d, ρ)
      | none => none)
  | .le i, ρ => (match slot ρ i with
      | some (.ow d) => some (Slot.ln d, ρ)
      | some (.ln d) => some (Slot.ln d, ρ)
      | _ => none)
  | .gv d, ρ => some (Slot.ln d, ρ)
  | r, ρ => (match tk r ρ with
      | some (d, ρ1) => some (Slot.fz d, ρ1)
      | none => none)
def argsOf : List Rs → Env → Option (List Slot × Env)
  | [], ρ => some ([], ρ)
  | r :: l, ρ => (match argOf r ρ with
    | some (s, ρ1) => (match argsOf l ρ1 with
      | some (ss, ρ2) => some (s :: ss, ρ2)
      | none => none)
    | none => none)
def mems (i : Nat) : List Rs → Bool
  | [] => false
  | .bo j :: l => i == j || mems i l
  | .le j :: l => i == j || mems i l
  | .sl j :: l => i == j || mems i l
  | _ :: l => mems i l
/-- what is lent to be changed is handed once -/
def lendOk : List Rs → Bool
  | [] => true
  | .le i :: l => !mems i l && lendOk l
  | .bo i :: l => !(l.any fun r => match r with | .le j => i == j | _ => false) && lendOk l
  | .sl i :: l => !(l.any fun r => match r with | .le j => i == j | _ => false) && lendOk l
  | _ :: l => lendOk l
/-- what was lent, back in its names -/
def outsTo : List Rs → List D → Env → Option Env
  | [], [], ρ => some ρ
  | .le i :: l, d :: ds, ρ => (match slot ρ i with
    | some (.ow _) => outsTo l ds (ρ.set i (some (.ow d)))
    | some (.ln _) => outsTo l ds (ρ.set i (some (.ln d)))
    | _ => none)
  | .gv _ :: l, _ :: ds, ρ => outsTo l ds ρ
  | .fz _ :: l, ds, ρ => outsTo l ds ρ
  | .fr _ :: l, ds, ρ => outsTo l ds ρ
  | .sl _ :: l, ds, ρ => outsTo l ds ρ
  | .bo _ :: l, ds, ρ => outsTo l ds ρ
  | _, _, _ => none
abbrev CallF := Nat → List Slot → RC
def permD {α : Type} (l : List α) : List Nat → Option (List α)
  | [] => some []
  | i :: r => match l[i]?, permD l r with
    | some x, some xs => some (x :: xs)
    | _, _ => none
def runCall (call : CallF) (f : Nat) (l : List Rs) (ρ : Env) : R :=
  if lendOk l then (match argsOf l ρ with
    | some (as, ρ1) => (match call f as with
      | .ok fr d outs => (match outsTo l outs ρ1 with
        | some ρ2 => .ok (if fr then .fr d else .fz d) ρ2
        | none => .no)
      | .ex c d outs => (match outsTo l outs ρ1 with
        | some ρ2 => .ex c d ρ2
        | none => .no)
      | .no => .no)
    | none => .no) else .no

/-! ### comprehensions -/
/-- the items one by one: acc, what is made so far -/
def lcGo (g : G) (test : Env → Option (Bool × Env)) (elt : Env → R) (vs : List Nat) : List D → List D → Env → R
  | [], acc, ρ => .ok (.fr (.lst acc)) ρ
  | x :: r, acc, ρ => match asgG g x false (hide vs ρ) with
    | some ρ1 => (match test ρ1 with
      | some (true, ρ2) => (match elt ρ2 with
        | .ok y ρ3 => (match tk y ρ3 with
          | some (d, ρ4) => if acc.length < LIM then lcGo g test elt vs r (acc ++ [d]) ρ4 else .no
          | none => .no)
        | _ => .no)
      | some (false, ρ2) => lcGo g test elt vs r acc ρ2
      | none => .no)
    | none => .no
/-- acc is given back -/
def lc2Go (g : G) (test : Env → Option (Bool × Env)) (it1 : Env → R) (inner : List D → List D → Env → R) (vs : List Nat) : List D → List D → Env → R
  | [], acc, ρ => .ok (.fr (.lst acc)) ρ
  | x :: r, acc, ρ => match asgG g x false (hide vs ρ) with
    | some ρ1 => (match test ρ1 with
      | some (true, ρ2) => (match it1 ρ2 with
        | .ok (.its l none) ρ3 => (match inner l acc ρ3 with
          | .ok (.fr (.lst acc')) ρ4 => lc2Go g test it1 inner vs r acc' ρ4
          | _ => .no)
        | _ => .no)
      | some (false, ρ2) => lc2Go g test it1 inner vs r acc ρ2
      | none => .no)
    | none => .no
def dcGo (t : Bool) (g : G) (test : Env → Option (Bool × Env)) (key val : Env → R) (vs : List Nat) : List D → List (D × D) → Env → R
  | [], acc, ρ => .ok (.fr (.dct t acc)) ρ
  | x :: r, acc, ρ => match asgG g x false (hide vs ρ) with
    | some ρ1 => (match test ρ1 with
      | some (true, ρ2) => (match key ρ2 with
        | .ok k ρ3 => (match tk k ρ3 with
          | some (kd, ρ4) => (match val ρ4 with
            | .ok y ρ5 => (match tk y ρ5 with
              | some (d, ρ6) => if keyFits t kd && decide (acc.length < LIM) then dcGo t g test key val vs r (dput kd d acc) ρ6 else .no
              | none => .no)
            | _ => .no)
          | none => .no)
        | _ => .no)
      | some (false, ρ2) => dcGo t g test key val vs r acc ρ2
      | none => .no)
    | none => .no

/-! ### expressions -/
structure Par where
  call : CallF
  glob : List D
  rep : D → Option Str
def tests : Rs → Env → Option Bool := fun r ρ => (rd r ρ).bind truD
/-- nothing that is raised leaves a comprehension -/
def testOf (r : R) : Option (Bool × Env) := match r with
  | .ok r ρ => (tests r ρ).map fun b => (b, ρ)
  | _ => none
def ofOpt (o : Option Rs) (ρ : Env) : R := match o with
  | some r => .ok r ρ
  | none => .no
def ev (p : Par) : E → Env → R
  | .nil, ρ => .ok (.ls []) ρ
  | .cons a b, ρ => (ev p a ρ).ba fun x ρ1 => (ev p b ρ1).bl fun l ρ2 => .ok (.ls (x ++ l)) ρ2
  | .star a, ρ => (ev p a ρ).b1 fun x ρ1 => (match (rd x ρ1).bind itemsD with
    | some ds => .ok (.st ds) ρ1
    | none => .no)
  | .bor i, ρ => (match slot ρ i with
    | some _ => .ok (.bo i) ρ
    | none => .no)
  | .lend i, ρ => (match slot ρ i with
    | some _ => .ok (.le i) ρ
    | none => .no)
  | .give a, ρ => (ev p a ρ).b1 fun x ρ1 => (match x with
    | .fr d => .ok (.gv d) ρ1
    | _ => .no)
  | .var i, ρ => (match slot ρ i with
    | some _ => .ok (.sl i) ρ
    | none => .no)
  | .int i, ρ => .ok (.fz (.int i)) ρ
  | .bl b, ρ => .ok (.fz (.bl b)) ρ
  | .non, ρ => .ok (.fz .non) ρ
  | .str s, ρ => .ok (.fz (.str s)) ρ
  | .glob x, ρ => (match p.glob[x]? with
    | some d => .ok (.fz d) ρ
    | none => .no)
  | .bin o a b, ρ => (ev p a ρ).b1 fun x ρ1 => (ev p b ρ1).b1 fun y ρ2 => (match rd x ρ2, rd y ρ2 with
    | some dx, some dy => ofOpt (binD o dx dy) ρ2
    | _, _ => .no)
  | .neg a, ρ => (ev p a ρ).b1 fun x ρ1 => (match rd x ρ1 with
    | some (.int i) => .ok (.fz (.int (-i))) ρ1
    | _ => .no)
  | .not a, ρ => (ev p a ρ).b1 fun x ρ1 => (match tests x ρ1 with
    | some b => .ok (.fz (.bl !b)) ρ1
    | none => .no)
  | .cmp a l, ρ => (match l with
    | .link o b r => (ev p a ρ).b1 fun x ρ1 => (ev p b ρ1).b1 fun y ρ2 => (match rd x ρ2, rd y ρ2 with
      | some dx, some dy => (match cmpD o dx dy with
        | some c => (match r with
          | .nil => .ok (.fz (.bl c)) ρ2
          | .link o2 b2 r2 => if c then (ev p b2 ρ2).b1 fun z ρ3 => (match rd y ρ3, rd z ρ3 with
              | some dy, some dz => (match cmpD o2 dy dz with
                | some c2 => (match r2 with
                  | .nil => .ok (.fz (.bl c2)) ρ3
                  | .link o3 b3 .nil => if c2 then (ev p b3 ρ3).b1 fun z3 ρ4 => (match rd z ρ4, rd z3 ρ4 with
                      | some dz, some dz3 => (match cmpD o3 dz dz3 with
                        | some c3 => .ok (.fz (.bl c3)) ρ4
                        | none => .no)
                      | _, _ => .no) else .ok (.fz (.bl false)) ρ3
                  | _ => .no)
                | none => .no)
              | _, _ => .no) else .ok (.fz (.bl false)) ρ2
          | _ => .no)
        | none => .no)
      | _, _ => .no)
    | _ => .no)
  | .and a b, ρ => (ev p a ρ).b1 fun x ρ1 => (match tests x ρ1 with
    | some true => ev p b ρ1
    | some false => .ok x ρ1
    | none => .no)
  | .or a b, ρ => (ev p a ρ).b1 fun x ρ1 => (match tests x ρ1 with
    | some true => .ok x ρ1
    | some false => ev p b ρ1
    | none => .no)
  | .ite c a b, ρ => (ev p c ρ).b1 fun x ρ1 => (match tests x ρ1 with
    | some true => ev p a ρ1
    | some false => ev p b ρ1
    | none => .no)
  | .tup l, ρ => (ev p l ρ).bl fun l ρ1 => (match tkAll l ρ1 with
    | some (ds, ρ2) => if ds.length ≤ LIM then .ok (.fz (.tup ds)) ρ2 else .no
    | none => .no)
  | .lst l, ρ => (ev p l ρ).bl fun l ρ1 => (match tkAll l ρ1 with
    | some (ds, ρ2) => if ds.length ≤ LIM then .ok (.fr (.lst ds)) ρ2 else .no
    | none => .no)
  | .ix a i, ρ => (ev p a ρ).b1 fun x ρ1 => (ev p i ρ1).b1 fun y ρ2 => (match rd x ρ2, rd y ρ2 with
    | some dx, some dy => (match itemD dx dy with
      | some d => .ok (.fz d) ρ2
      | none => .no)
    | _, _ => .no)
  | .sl a lo hi, ρ => (ev p a ρ).b1 fun x ρ1 => (ev p lo ρ1).bo fun lo ρ2 => (ev p hi ρ2).bo fun hi ρ3 => (match rd x ρ3 with
    | some dx => ofOpt (sliceD dx lo hi) ρ3
    | none => .no)
  | .call f l, ρ => (ev p l ρ).bl fun l ρ1 => runCall p.call f l ρ1
  | .callK f l perm, ρ => (ev p l ρ).bl fun l ρ1 => (match permD l perm with
    | some l' => runCall p.call f l' ρ1
    | none => .no)
  | .callV a l, ρ => (ev p a ρ).b1 fun x ρ1 => (match rd x ρ1 with
    | some (.fn f) => (ev p l ρ1).bl fun l ρ2 => runCall p.call f l ρ2
    | _ => .no)
  | .bi b l, ρ => (ev p l ρ).bl fun l ρ1 => (match rdAll l ρ1 with
    | some ds => ofOpt (biD p.rep b ds) ρ1
    | none => .no)
  | .divmod a b, ρ => (ev p a ρ).b1 fun x ρ1 => (ev p b ρ1).b1 fun y ρ2 => (match rd x ρ2, rd y ρ2 with
    | some (.int i), some (.int j) => if decide (0 < j) && decide (j < 1073741824) then .ok (.fz (.tup [.int (i / j), .int (i % j)])) ρ2 else .no
    | _, _ => .no)
  | .mt m a l, ρ => (ev p a ρ).b1 fun x ρ1 => if (rd x ρ1).any (mtAt m) then (ev p l ρ1).bl fun l ρ2 => (match rd x ρ2, rdAll l ρ2 with
    | some dx, some ds => ofOpt (mtD m dx ds) ρ2
    | _, _ => .no) else .no
  | .mu m i l, ρ => (match slot ρ i with
    | some s => if isLst s.d then (ev p l ρ).bl fun l ρ1 => (match m with
      | .append => (match tkAll l ρ1 with
        | some (ds, ρ2) => (match slot ρ2 i with
          | some (.ow d) => (match muD m d ds with
            | some (r, d') => .ok (.fz r) (ρ2.set i (some (.ow d')))
            | none => .no)
          | some (.ln d) => (match muD m d ds with
            | some (r, d') => .ok (.fz r) (ρ2.set i (some (.ln d')))
            | none => .no)
          | _ => .no)
        | none => .no)
      | m => (match rdAll l ρ1 with
        | some ds => (match slot ρ1 i with
          | some (.ow d) => (match muD m d ds with
            | some (r, d') => .ok (.fz r) (ρ1.set i (some (.ow d')))
            | none => .no)
          | some (.ln d) => (match muD m d ds with
            | some (r, d') => .ok (.fz r) (ρ1.set i (some (.ln d')))
            | none => .no)
          | _ => .no)
        | none => .no)) else .no
    | none => .no)
  | .isi a t, ρ => (ev p a ρ).b1 fun x ρ1 => (match (rd x ρ1).bind fun d => isiD d t with
    | some b => .ok (.fz (.bl b)) ρ1
    | none => .no)
  | .lc g it ifs elt vs, ρ => (ev p it ρ).bi fun l k ρ1 => (match lcGo g (fun ρ => testOf (ev p ifs ρ)) (fun ρ => ev p elt ρ) vs l [] (lock k ρ1) with
    | .ok r ρ2 => .ok r (unlock k ρ1 (back vs ρ1 ρ2))
    | _ => .no)
  | .lc2 g it ifs g1 it1 ifs1 elt vs vs1, ρ => (ev p it ρ).bi fun l k ρ1 =>
    (match lc2Go g (fun ρ => testOf (ev p ifs ρ)) (fun ρ => ev p it1 ρ) (lcGo g1 (fun ρ => testOf (ev p ifs1 ρ)) (fun ρ => ev p elt ρ) vs1) vs l [] (lock k ρ1) with
    | .ok r ρ2 => .ok r (unlock k ρ1 (back vs ρ1 ρ2))
    | _ => .no)
  | .dc t g it ifs key val vs, ρ => (ev p it ρ).bi fun l k ρ1 => (match dcGo t g (fun ρ => testOf (ev p ifs ρ)) (fun ρ => ev p key ρ) (fun ρ => ev p val ρ) vs l [] (lock k ρ1) with
    | .ok r ρ2 => .ok r (unlock k ρ1 (back vs ρ1 ρ2))
    | _ => .no)
  | .itP a, ρ => (ev p a ρ).b1 fun x ρ1 => (match walkOf x ρ1 with
    | some (l, k) => .ok (.its l k) ρ1
    | none => .no)
  | .itR l, ρ => (ev p l ρ).bl fun l ρ1 => (match (rdAll l ρ1).bind rangeA with
    | some l => .ok (.its l none) ρ1
    | none => .no)
  | .itE a, ρ => (ev p a ρ).b1 fun x ρ1 => (match walkOf x ρ1 with
    | some (l, k) => .ok (.its (numbered 0 l) k) ρ1
    | none => .no)
  | .itZ a b, ρ => (ev p a ρ).b1 fun x ρ1 => (ev p b ρ1).b1 fun y ρ2 => (match walkOf x ρ2, walkOf y ρ2 with
    | some (l, none), some (m, none) => .ok (.its (zipD l m) none) ρ2
    | _, _ => .no)
  | .itI a, ρ => (ev p a ρ).b1 fun x ρ1 => (match rd x ρ1 with
    | some (.dct _ kvs) => (match x with
      | .sl j => (match slot ρ1 j with
        | some s => .ok (.its (kvs.map fun e => .tup [e.1, e.2]) (if needLock s then some j else none)) ρ1
        | none => .no)
      | _ => .ok (.its (kvs.map fun e => .tup [e.1, e.2]) none) ρ1)
    | _ => .no)
  | .rev a, ρ => (ev p a ρ).b1 fun x ρ1 => (match rd x ρ1 with
    | some (.lst xs) => .ok (.fr (.lst xs.reverse)) ρ1
    | some (.tup xs) => .ok (.fz (.tup xs.reverse)) ρ1
    | _ => .no)
  | .lrng l, ρ => (ev p l ρ).bl fun l ρ1 => (match (rdAll l ρ1).bind rangeD with
    | some ds => if ds.length ≤ LIM then .ok (.fr (.lst ds)) ρ1 else .no
    | none => .no)
  | .trng l, ρ => (ev p l ρ).bl fun l ρ1 => (match (rdAll l ρ1).bind rangeD with
    | some ds => if ds.length ≤ LIM then .ok (.fz (.tup ds)) ρ1 else .no
    | none => .no)
  | .sset a, ρ => (ev p a ρ).b1 fun x ρ1 => (match (rd x ρ1).bind itemsD with
    | some xs => (match intsD xs with
      | some is => if is.length ≤ LIM then .ok (.fr (.lst (isort (uniq (is.map .int))))) ρ1 else .no
      | none => .no)
    | none => .no)
  | .dnil, ρ => .ok (.st []) ρ
  | .dkv k v r, ρ => (ev p k ρ).b1 fun x ρ1 => (match tk x ρ1 with
    | some (kd, ρ2) => (ev p v ρ2).b1 fun y ρ3 => (match tk y ρ3 with
      | some (d, ρ4) => (match ev p r ρ4 with
        | .ok (.st l) ρ5 => .ok (.st (.tup [kd, d] :: l)) ρ5
        | _ => .no)
      | none => .no)
    | none => .no)
  | .dun a r, ρ => (ev p a ρ).b1 fun x ρ1 => (match rd x ρ1 with
    | some (.dct t es) => (match ev p r ρ1 with
        | .ok (.st l) ρ5 => .ok (.st (.dct t es :: l)) ρ5
        | _ => .no)
    | _ => .no)
  | .dds t l, ρ => (match ev p l ρ with
    | .ok (.st l) ρ1 => (match dmake t l [] with
      | some r => .ok (.fr (.dct t r)) ρ1
      | none => .no)
    | _ => .no)
  | .link _ _ _, _ => .no
termination_by structural e => e

/-! ### statements -/
inductive T where | nm (i : Nat) (own : Bool) | ix (j : Nat) (i : E) | nil | cons (a b : T) | tup (l : T)
inductive S where
  | skip | seq (a b : S) | ex (e : E) | asg (t : T) (e : E) | par (g : G) (l : E)
  | ite (c : E) (a b : S) | loop (g : G) (it : E) (b : S) | wh (c : E) (b : S) | ret (e : E) | retN | brk | cont
  | raise (c : Nat) (l : E) | never
inductive F where
  | nx (ρ : Env) | rt (r : Rs) (ρ : Env) | bk (ρ : Env) | ct (ρ : Env) | ex (c : Nat) (d : D) (ρ : Env) | no
def R.fl (r : R) (k : Rs → Env → F) : F := match r with
  | .ok r ρ => k r ρ
  | .ex c d ρ => .ex c d ρ
  | .no => .no
/-- a value, whether it is new -/
def tkFr (r : Rs) (ρ : Env) : Option (D × Bool × Env) := match r with
  | .fr d => some (d, true, ρ)
  | r => (tk r ρ).map fun (d, ρ1) => (d, false, ρ1)
def T.count : T → Nat
  | .cons _ b => T.count b + 1
  | _ => 0
def asgT (p : Par) : T → D → Bool → Env → F
  | .nm i own, d, fr, ρ => (match asgG (.nm i own) d fr ρ with
    | some ρ1 => .nx ρ1
    | none => .no)
  | .ix j e, d, _, ρ => (match slot ρ j with
    | some _ => (ev p e ρ).fl fun x ρ1 => (match rd x ρ1 with
      | some k => (match slot ρ1 j with
        | some (.ow o) => (match setD o k d with
          | some o' => .nx (ρ1.set j (some (.ow o')))
          | none => .no)
        | some (.ln o) => (match setD o k d with
          | some o' => .nx (ρ1.set j (some (.ln o')))
          | none => .no)
        | _ => .no)
      | none => .no)
    | none => .no)
  | .tup l, d, _, ρ => (match d with
    | .tup ds => if ds.length = l.count then asgT p l (.lst ds) false ρ else .no
    | .ktp ds => if ds.length = l.count then asgT p l (.lst ds) false ρ else .no
    | _ => .no)
  | .nil, d, _, ρ => (match d with
    | .lst [] => .nx ρ
    | _ => .no)
  | .cons a b, d, _, ρ => (match d with
    | .lst (x :: r) => (match asgT p a x false ρ with
      | .nx ρ1 => asgT p b (.lst r) false ρ1
      | .ex c d ρ1 => .ex c d ρ1
      | _ => .no)
    | _ => .no)
def parG : G → List Rs → Env → Option Env
  | .nil, [], ρ => some ρ
  | .cons g gs, r :: l, ρ => (match r with
    | .fr d => (match asgG g d true ρ with
      | some ρ1 => parG gs l ρ1
      | none => none)
    | .fz d => (match asgG g d false ρ with
      | some ρ1 => parG gs l ρ1
      | none => none)
    | _ => none)
  | _, _, _ => none
/-- all that stand in names are kept -/
def tkS1 : Rs → Env → Option (Rs × Env)
  | .fr d, ρ => some (.fr d, ρ)
  | r, ρ => (match tk r ρ with
    | some (d, ρ1) => some (.fz d, ρ1)
    | none => none)
def tkSl : List Rs → Env → Option (List Rs × Env)
  | [], ρ => some ([], ρ)
  | r :: l, ρ => (match tkS1 r ρ with
    | some (r', ρ1) => (match tkSl l ρ1 with
      | some (l', ρ2) => some (r' :: l', ρ2)
      | none => none)
    | none => none)
def forGo (g : G) (body : Env → F) : List D → Env → F
  | [], ρ => .nx ρ
  | x :: r, ρ => match asgG g x false ρ with
    | some ρ1 => (match body ρ1 with
      | .nx ρ2 => forGo g body r ρ2
      | .ct ρ2 => forGo g body r ρ2
      | f => f)
    | none => .no
def whGo (test : Env → R) (body : Env → F) : Nat → Env → F
  | 0, _ => .no
  | n + 1, ρ => (test ρ).fl fun x ρ1 => (match tests x ρ1 with
    | some true => (match body ρ1 with
      | .nx ρ2 => whGo test body n ρ2
      | .ct ρ2 => whGo test body n ρ2
      | .bk ρ2 => .nx ρ2
      | f => f)
    | some false => .nx ρ1
    | none => .no)
/-- the lock of a walk, at a loop's end -/
def F.unlock (k : Option Nat) (ρ0 : Env) : F → F
  | .nx ρ => .nx (Ev.unlock k ρ0 ρ)
  | .bk ρ => .nx (Ev.unlock k ρ0 ρ)
  | .rt (.sl j) ρ => if k = some j then .no else .rt (.sl j) (Ev.unlock k ρ0 ρ)
  | .rt (.bo _) _ => .no
  | .rt (.le _) _ => .no
  | .rt r ρ => .rt r (Ev.unlock k ρ0 ρ)
  | .ex c d ρ => .ex c d (Ev.unlock k ρ0 ρ)
  | _ => .no
def evS (p : Par) (w : Nat) : S → Env → F
  | .skip, ρ => .nx ρ
  | .seq a b, ρ => (match evS p w a ρ with
    | .nx ρ1 => evS p w b ρ1
    | f => f)
  | .ex e, ρ => (ev p e ρ).fl fun x ρ1 => (match x with
    | .ls _ => .no
    | .its _ _ => .no
    | _ => .nx ρ1)
  | .asg t e, ρ => (ev p e ρ).fl fun x ρ1 => (match tkFr x ρ1 with
    | some (d, fr, ρ2) => asgT p t d fr ρ2
    | none => .no)
  | .par g l, ρ => (ev p l ρ).fl fun x ρ1 => (match x with
    | .ls l => (match tkSl l ρ1 with
      | some (l', ρ2) => (match parG g l' ρ2 with
        | some ρ3 => .nx ρ3
        | none => .no)
      | none => .no)
    | _ => .no)
  | .ite c a b, ρ => (ev p c ρ).fl fun x ρ1 => (match tests x ρ1 with
    | some true => evS p w a ρ1
    | some false => evS p w b ρ1
    | none => .no)
  | .loop g it b, ρ => (ev p it ρ).fl fun x ρ1 => (match x with
    | .its l k => (forGo g (fun ρ => evS p w b ρ) l (lock k ρ1)).unlock k ρ1
    | _ => .no)
  | .wh c b, ρ => whGo (fun ρ => ev p c ρ) (fun ρ => evS p w b ρ) w ρ
  | .ret e, ρ => (ev p e ρ).fl fun x ρ1 => (match x with
    | .fz d => .rt (.fz d) ρ1
    | .fr d => .rt (.fr d) ρ1
    | .sl i => .rt (.sl i) ρ1
    | _ => .no)
  | .retN, ρ => .rt (.fz .non) ρ
  | .brk, ρ => .bk ρ
  | .cont, ρ => .ct ρ
  | .never, _ => .no
  | .raise c l, ρ => (ev p l ρ).fl fun x ρ1 => (match x with
    | .ls l => (match tkAll l ρ1 with
      | some (ds, ρ2) => .ex c (.tup ds) ρ2
      | none => .no)
    | _ => .no)

/-! ### defs -/
/-- fr: whether what it gives may be new; many: its names; args: how many parameters -/
structure Fn where
  many : Nat
  args : Nat
  fr : Bool
  body : S
/-- what was lent, at the end -/
def outsOf : List Slot → Env → Option (List D)
  | [], _ => some []
  | .ln _ :: r, s :: ρ => (match s with
    | some (.ln d) => (outsOf r ρ).map (d :: ·)
    | _ => none)
  | _ :: r, _ :: ρ => outsOf r ρ
  | _, _ => none
def finish (fd : Fn) (as : List Slot) : F → RC
  | .nx ρ => (match outsOf as ρ with
    | some outs => .ok false .non outs
    | none => .no)
  | .rt r ρ => (match r with
    | .fz d => (match outsOf as ρ with
      | some outs => .ok false d outs
      | none => .no)
    | .fr d => (match outsOf as ρ with
      | some outs => .ok fd.fr d outs
      | none => .no)
    | .sl i => (match slot ρ i with
      | some (.fz d) => (match outsOf as ρ with
        | some outs => .ok false d outs
        | none => .no)
      | some (.ow d) => (match outsOf as ρ with
        | some outs => .ok fd.fr d outs
        | none => .no)
      | _ => .no)
    | _ => .no)
  | .ex c d ρ => (match outsOf as ρ with
    | some outs => .ex c d outs
    | none => .no)
  | _ => .no
structure Prog where
  fns : List Fn
  glob : List D
  fuel : Nat
  rep : D → Option Str
def callN (P : Prog) : Nat → CallF
  | 0, _, _ => .no
  | n + 1, f, as => match P.fns[f]? with
    | some fd => if as.length = fd.args then finish fd as (evS ⟨callN P n, P.glob, P.rep⟩ P.fuel fd.body (as.map some ++ List.replicate (fd.many - as.length) none)) else .no
    | none => .no
end Ev
end

section
set_option Elab.async false
set_option linter.all false
set_option maxRecDepth 100000
/-! EvR: how the values of EvD lie in the abstract heap of the hand layer. G: what stands still and may be read by anybody; H: the whole. -/
namespace Ev
open PySem PySem.Spec L2

/-! ### keys -/
def kD : Key → D
  | .inl i => .int i
  | .inr s => .str s
/-- where the defs stand -/
abbrev Fa := Nat → Option Addr

/-- a tuple of the written part -/
def KT (K : PySem.W.Frag) (a : Addr) (xs : List V) : Prop := ∃ (o : Obj) (its : Array Value) (n : Nat), K.lookup a = some o ∧ o.cls = .type "tuple" ∧ o.data = .seq its n ∧ its.size ≤ sizeLine ∧ Vals xs its.toList
mutual
inductive Rp (fa : Fa) (K : PySem.W.Frag) (G : Hp) : V → D → Prop
  | non : Rp fa K G .non .non
  | bl (b : Bool) : Rp fa K G (.bl b) (.bl b)
  | int (i : Int) : Rp fa K G (.int i) (.int i)
  | str (s : Str) : Rp fa K G (.str s) (.str s)
  | tup {a : Addr} {xs : List V} {ds : List D} : G a = some (.tup xs) → RpA fa K G xs ds → Rp fa K G (.ref a) (.tup ds)
  | ktp {a : Addr} {xs : List V} {ds : List D} : KT K a xs → RpA fa K G xs ds → Rp fa K G (.ref a) (.ktp ds)
  | lst {a : Addr} {xs : List V} {ds : List D} : Rd G a (.lst xs) → RpA fa K G xs ds → Rp fa K G (.ref a) (.lst ds)
  | dK {a : Addr} {ks : List Key} {xs : List V} {ds : List D} : Rd G a (.dK (ks.zip xs)) → ks.length = xs.length → RpA fa K G xs ds → Rp fa K G (.ref a) (.dct false ((ks.map kD).zip ds))
  | dT {a : Addr} {ks : List (List Key)} {xs : List V} {ds : List D} : Rd G a (.dT (ks.zip xs)) → ks.length = xs.length → RpA fa K G xs ds → Rp fa K G (.ref a) (.dct true ((ks.map fun k => .tup (k.map kD)).zip ds))
  | fn {a : Addr} {f : Nat} : fa f = some a → Rp fa K G (.ref a) (.fn f)
inductive RpA (fa : Fa) (K : PySem.W.Frag) (G : Hp) : List V → List D → Prop
  | nil : RpA fa K G [] []
  | cons {v : V} {vs : List V} {d : D} {ds : List D} : Rp fa K G v d → RpA fa K G vs ds → RpA fa K G (v :: vs) (d :: ds)
end

/-- what may be read in the one may be read in the other -/
structure Sub (G H : Hp) : Prop where
  rd : ∀ a u, Rd G a u → Rd H a u
  tup : ∀ a xs, G a = some (.tup xs) → H a = some (.tup xs)
theorem Sub.refl (G : Hp) : Sub G G := ⟨fun _ _ h => h, fun _ _ h => h⟩
theorem Sub.trans {G H I : Hp} (a : Sub G H) (b : Sub H I) : Sub G I := ⟨fun x u h => b.rd x u (a.rd x u h), fun x u h => b.tup x u (a.tup x u h)⟩
/-- a new thing -/
theorem Sub.new {G : Hp} {p : Addr} {o : HO} (h : G p = none) : Sub G (upd G p o) := by
  have ne : ∀ {a w}, G a = some w → a ≠ p := fun e z => by rw [z, h] at e; cases e
  refine ⟨fun a u r => ?_, fun a xs r => by rw [upd_ne (ne r)]; exact r⟩
  rcases r with r | ⟨w, r⟩
  · exact .inl (by rw [upd_ne (ne r)]; exact r)
  · exact .inr ⟨w, by rw [upd_ne (ne r)]; exact r⟩
theorem Sub.vis {G H : Hp} {p : Addr} {o : HO} (s : Sub G H) (h : H p = some o) (nf : ∀ w u, o ≠ .frz w u) : Sub (upd G p o) H := by
  refine ⟨fun a u r => ?_, fun a xs r => ?_⟩
  · by_cases e : a = p
    · subst e
      rcases r with r | ⟨w, r⟩
      · rw [upd_same] at r; cases r; exact .inl h
      · rw [upd_same] at r; cases r; exact absurd rfl (nf w u)
    · refine s.rd a u ?_
      rcases r with r | ⟨w, r⟩
      · exact .inl (by rw [upd_ne e] at r; exact r)
      · exact .inr ⟨w, by rw [upd_ne e] at r; exact r⟩
  · by_cases e : a = p
    · subst e
      rw [upd_same] at r; cases r; exact h
    · rw [upd_ne e] at r
      exact s.tup a xs r
theorem Sub.out {G H : Hp} {p : Addr} {o : HO} (s : Sub G H) (h : G p = none) : Sub G (upd H p o) := by
  have ne : ∀ {a w}, G a = some w → a ≠ p := fun e z => by rw [z, h] at e; cases e
  refine ⟨fun a u r => ?_, fun a xs r => by rw [upd_ne (ne r)]; exact s.tup a xs r⟩
  have ne' : a ≠ p := by
    rcases r with r | ⟨w, r⟩
    · exact ne r
    · exact ne r
  rcases s.rd a u r with r | ⟨w, r⟩
  · exact .inl (by rw [upd_ne ne']; exact r)
  · exact .inr ⟨w, by rw [upd_ne ne']; exact r⟩
theorem Sub.both {G H : Hp} {p : Addr} {o : HO} (s : Sub G H) : Sub (upd G p o) (upd H p o) := by
  refine ⟨fun a u r => ?_, fun a xs r => ?_⟩
  · by_cases e : a = p
    · subst e
      rcases r with r | ⟨w, r⟩
      · rw [upd_same] at r; exact .inl (by rw [upd_same]; exact r)
      · rw [upd_same] at r; exact .inr ⟨w, by rw [upd_same]; exact r⟩
    · have r' : Rd G a u := by
        rcases r with r | ⟨w, r⟩
        · exact .inl (by rw [upd_ne e] at r; exact r)
        · exact .inr ⟨w, by rw [upd_ne e] at r; exact r⟩
      rcases s.rd a u r' with r | ⟨w, r⟩
      · exact .inl (by rw [upd_ne e]; exact r)
      · exact .inr ⟨w, by rw [upd_ne e]; exact r⟩
  · by_cases e : a = p
    · subst e
      rw [upd_same] at r ⊢; exact r
    · rw [upd_ne e] at r ⊢
      exact s.tup a xs r

section
variable {fa : Fa} {K : PySem.W.Frag} {G H : Hp}
mutual
theorem Rp.mono (e : Sub G H) : ∀ {v : V} {d : D}, Rp fa K G v d → Rp fa K H v d
  | _, _, .non => .non
  | _, _, .bl b => .bl b
  | _, _, .int i => .int i
  | _, _, .str s => .str s
  | _, _, .tup h r => .tup (e.tup _ _ h) (RpA.mono e r)
  | _, _, .ktp h r => .ktp h (RpA.mono e r)
  | _, _, .lst h r => .lst (e.rd _ _ h) (RpA.mono e r)
  | _, _, .dK h l r => .dK (e.rd _ _ h) l (RpA.mono e r)
  | _, _, .dT h l r => .dT (e.rd _ _ h) l (RpA.mono e r)
  | _, _, .fn h => .fn h
theorem RpA.mono (e : Sub G H) : ∀ {vs : List V} {ds : List D}, RpA fa K G vs ds → RpA fa K H vs ds
  | _, _, .nil => .nil
  | _, _, .cons h r => .cons (Rp.mono e h) (RpA.mono e r)
end
theorem RpA.length : ∀ {vs : List V} {ds : List D}, RpA fa K G vs ds → vs.length = ds.length
  | _, _, .nil => rfl
  | _, _, .cons _ r => by rw [List.length_cons, List.length_cons, RpA.length r]
theorem RpA.append : ∀ {vs ws : List V} {ds es : List D}, RpA fa K G vs ds → RpA fa K G ws es → RpA fa K G (vs ++ ws) (ds ++ es)
  | _, _, _, _, .nil, s => s
  | _, _, _, _, .cons h r, s => .cons h (RpA.append r s)
theorem RpA.get : ∀ {vs : List V} {ds : List D} {i : Nat} {d : D}, RpA fa K G vs ds → ds[i]? = some d → ∃ v, vs[i]? = some v ∧ Rp fa K G v d
  | _, _, _, _, .nil, e => by simp at e
  | _, _, 0, _, .cons h _, e => by simp at e; subst e; exact ⟨_, rfl, h⟩
  | _, _, i + 1, _, .cons _ r, e => by
    obtain ⟨v, h1, h2⟩ := RpA.get (i := i) r (by simpa using e)
    exact ⟨v, by simpa using h1, h2⟩
theorem RpA.getV : ∀ {vs : List V} {ds : List D} {i : Nat} {v : V}, RpA fa K G vs ds → vs[i]? = some v → ∃ d, ds[i]? = some d ∧ Rp fa K G v d
  | _, _, _, _, .nil, e => by simp at e
  | _, _, 0, _, .cons h _, e => by simp at e; subst e; exact ⟨_, rfl, h⟩
  | _, _, i + 1, _, .cons _ r, e => by
    obtain ⟨v, h1, h2⟩ := RpA.getV (i := i) r (by simpa using e)
    exact ⟨v, by simpa using h1, h2⟩
theorem RpA.take : ∀ {vs : List V} {ds : List D} (n : Nat), RpA fa K G vs ds → RpA fa K G (vs.take n) (ds.take n)
  | _, _, 0, _ => .nil
  | _, _, n + 1, .nil => .nil
  | _, _, n + 1, .cons h r => .cons h (RpA.take n r)
theorem RpA.drop : ∀ {vs : List V} {ds : List D} (n : Nat), RpA fa K G vs ds → RpA fa K G (vs.drop n) (ds.drop n)
  | _, _, 0, r => r
  | _, _, n + 1, .nil => .nil
  | _, _, n + 1, .cons _ r => RpA.drop n r
theorem RpA.reverse : ∀ {vs : List V} {ds : List D}, RpA fa K G vs ds → RpA fa K G vs.reverse ds.reverse
  | _, _, .nil => .nil
  | _, _, .cons h r => by
    rw [List.reverse_cons, List.reverse_cons]
    exact (RpA.reverse r).append (.cons h .nil)
theorem RpA.set {v : V} {d : D} (h : Rp fa K G v d) : ∀ {vs : List V} {ds : List D} (i : Nat), RpA fa K G vs ds → RpA fa K G (vs.set i v) (ds.set i d)
  | _, _, _, .nil => .nil
  | _, _, 0, .cons _ r => .cons h r
  | _, _, i + 1, .cons q r => .cons q (RpA.set h i r)
theorem RpA.dropLast : ∀ {vs : List V} {ds : List D}, RpA fa K G vs ds → RpA fa K G vs.dropLast ds.dropLast
  | _, _, .nil => .nil
  | _, _, .cons _ .nil => .nil
  | _, _, .cons h (.cons h2 r) => .cons h (RpA.dropLast (.cons h2 r))
theorem RpA.ints : ∀ is : List Int, RpA fa K G (is.map V.int) (is.map D.int)
  | [] => .nil
  | i :: r => .cons (.int i) (RpA.ints r)
end

/-- a list or dict at p that isn't read by others -/
def Own (fa : Fa) (K : PySem.W.Frag) (G H : Hp) (p : Addr) (d : D) : Prop :=
  (∃ (vs : List V) (ds : List D), d = .lst ds ∧ H p = some (.lst vs) ∧ RpA fa K G vs ds) ∨
  (∃ (ks : List Key) (vs : List V) (ds : List D), d = .dct false ((ks.map kD).zip ds) ∧ H p = some (.dK (ks.zip vs)) ∧ ks.length = vs.length ∧ RpA fa K G vs ds) ∨
  (∃ (ks : List (List Key)) (vs : List V) (ds : List D), d = .dct true ((ks.map fun k => D.tup (k.map kD)).zip ds) ∧ H p = some (.dT (ks.zip vs)) ∧ ks.length = vs.length ∧ RpA fa K G vs ds)
section
variable {fa : Fa} {K : PySem.W.Frag} {G G' H H' : Hp} {p : Addr} {d : D}
theorem Own.step (h : Own fa K G H p d) (e : Sub G G') (k : H' p = H p) : Own fa K G' H' p d := by
  rcases h with ⟨vs, ds, rfl, h, r⟩ | ⟨ks, vs, ds, rfl, h, l, r⟩ | ⟨ks, vs, ds, rfl, h, l, r⟩
  · exact .inl ⟨vs, ds, rfl, k.trans h, r.mono e⟩
  · exact .inr (.inl ⟨ks, vs, ds, rfl, k.trans h, l, r.mono e⟩)
  · exact .inr (.inr ⟨ks, vs, ds, rfl, k.trans h, l, r.mono e⟩)
theorem Own.there (h : Own fa K G H p d) : ∃ o, H p = some o ∧ (∀ w u, o ≠ .frz w u) ∧ ∀ xs, o ≠ .tup xs := by
  rcases h with ⟨vs, ds, rfl, h, r⟩ | ⟨ks, vs, ds, rfl, h, l, r⟩ | ⟨ks, vs, ds, rfl, h, l, r⟩ <;> exact ⟨_, h, fun _ _ z => (by cases z), fun _ z => (by cases z)⟩
/-- it stands still from now on -/
theorem Own.frz {o : HO} (h : Own fa K G H p d) (ho : H p = some o) (hn : G p = none) : Rp fa K (upd G p o) (.ref p) d := by
  have e : Sub G (upd G p o) := Sub.new hn
  rcases h with ⟨vs, ds, rfl, h, r⟩ | ⟨ks, vs, ds, rfl, h, l, r⟩ | ⟨ks, vs, ds, rfl, h, l, r⟩
  · rw [h] at ho; cases ho; exact .lst (.inl upd_same) (r.mono e)
  · rw [h] at ho; cases ho; exact .dK (.inl upd_same) l (r.mono e)
  · rw [h] at ho; cases ho; exact .dT (.inl upd_same) l (r.mono e)
end

/-! ### names -/
/-- what stands in a name and may be changed -/
def isOw : Slot → Bool
  | .ow _ => true
  | .ln _ => true
  | _ => false
def Lof (ρ : Env) (σ : St) (a : Addr) : Prop := ∃ i s, slot ρ i = some s ∧ isOw s = true ∧ σ[i]? = some (some (.ref a))
def SlotOk (fa : Fa) (K : PySem.W.Frag) (G H : Hp) (L : Addr → Prop) (v : V) : Slot → Prop
  | .fz d => Rp fa K G v d
  | .ow d => ∃ p, v = .ref p ∧ G p = none ∧ Own fa K G H p d
  | .ln d => ∃ p, v = .ref p ∧ G p = none ∧ Own fa K G H p d
  | .lk d => Rp fa K G v d ∨ ∃ p, v = .ref p ∧ G p = none ∧ ¬ L p ∧ Own fa K G H p d
structure EnvOk (fa : Fa) (K : PySem.W.Frag) (G0 G H : Hp) (ρ : Env) (σ : St) : Prop where
  sub : Sub G H
  low : Sub G0 G
  len : ρ.length = σ.length
  val : ∀ i s, slot ρ i = some s → ∃ v, σ[i]? = some (some v) ∧ SlotOk fa K G H (Lof ρ σ) v s
  inj : ∀ i j s t, slot ρ i = some s → slot ρ j = some t → isOw s = true → isOw t = true → σ[i]? = σ[j]? → i = j
/-- what changes between two states: who owns, what stands still -/
structure Step (L L' : Addr → Prop) (G H G' H' : Hp) : Prop where
  mono : Sub G G'
  keep : ∀ a, H a ≠ none → G a = none → ¬ L a → H' a = H a ∧ (G' a = none ∨ ∃ xs, H a = some (.tup xs)) ∧ ¬ L' a
  dom : ∀ a, H a ≠ none → H' a ≠ none
  still : ∀ a xs, H a = some (.tup xs) → ¬ L a → H' a = H a ∧ ¬ L' a
theorem Step.refl (L : Addr → Prop) (G H : Hp) : Step L L G H G H := ⟨Sub.refl _, fun _ _ n l => ⟨rfl, .inl n, l⟩, fun _ h => h, fun _ _ _ l => ⟨rfl, l⟩⟩
theorem Step.trans {L1 L2' L3 : Addr → Prop} {G1 H1 G2 H2 G3 H3 : Hp} (a : Step L1 L2' G1 H1 G2 H2) (b : Step L2' L3 G2 H2 G3 H3) : Step L1 L3 G1 H1 G3 H3 where
  mono := a.mono.trans b.mono
  keep := fun x h n l => by
    obtain ⟨e1, e2, e3⟩ := a.keep x h n l
    rcases e2 with e2 | e2
    · obtain ⟨f1, f2, f3⟩ := b.keep x (a.dom x h) e2 e3
      exact ⟨f1.trans e1, by rw [e1] at f2; exact f2, f3⟩
    · obtain ⟨xs, e2⟩ := e2
      obtain ⟨f1, f3⟩ := b.still x xs (e1.trans e2) e3
      exact ⟨f1.trans e1, .inr ⟨xs, e2⟩, f3⟩
  dom := fun x h => b.dom x (a.dom x h)
  still := fun x xs h l => by
    obtain ⟨e1, e2⟩ := a.still x xs h l
    obtain ⟨f1, f2⟩ := b.still x xs (e1.trans h) e2
    exact ⟨f1.trans e1, f2⟩
/-- the whole stays, more of it is seen -/
theorem Step.see {L L' : Addr → Prop} {G H G' : Hp} (m : Sub G G') (k : ∀ a, H a ≠ none → G a = none → ¬ L a → G' a = none) (l : ∀ a, L' a → L a) : Step L L' G H G' H :=
  ⟨m, fun a h n q => ⟨rfl, .inl (k a h n q), fun z => q (l a z)⟩, fun _ h => h, fun a xs h q => ⟨rfl, fun z => q (l a z)⟩⟩
theorem Step.at' {L L' : Addr → Prop} {G H G' H' : Hp} (s : Step L L' G H G' H') {p : Addr} {w : HO} (hw : H p = some w) (nt : ∀ xs, w ≠ .tup xs) (n : G p = none) (l : ¬ L p) : H' p = H p ∧ G' p = none ∧ ¬ L' p := by
  obtain ⟨e1, e2, e3⟩ := s.keep p (by rw [hw]; simp) n l
  rcases e2 with e2 | ⟨xs, e2⟩
  · exact ⟨e1, e2, e3⟩
  · rw [hw] at e2
    exact absurd (Option.some.inj e2) (nt xs)
/-- lk and ln don't come from nowhere -/
def kindOf : Option Slot → Nat
  | some (.lk _) => 1
  | some (.ln _) => 2
  | _ => 0
def Fix (ρ ρ' : Env) (σ σ' : St) : Prop := ∀ i, kindOf (slot ρ' i) ≠ 0 → kindOf (slot ρ i) = kindOf (slot ρ' i) ∧ σ'[i]? = σ[i]? ∧ (kindOf (slot ρ' i) = 1 → slot ρ' i = slot ρ i)
theorem Fix.refl (ρ : Env) (σ : St) : Fix ρ ρ σ σ := fun _ _ => ⟨rfl, rfl, fun _ => rfl⟩
theorem Fix.trans {ρ1 ρ2 ρ3 : Env} {σ1 σ2 σ3 : St} (a : Fix ρ1 ρ2 σ1 σ2) (b : Fix ρ2 ρ3 σ2 σ3) : Fix ρ1 ρ3 σ1 σ3 := fun i h => by
  obtain ⟨e1, e2, e3⟩ := b i h
  obtain ⟨f1, f2, f3⟩ := a i (by rw [e1]; exact h)
  exact ⟨f1.trans e1, e2.trans f2, fun k => (e3 k).trans (f3 (by rw [e1]; exact k))⟩

/-! ### what an expression gives -/
def ResOk (fa : Fa) (K : PySem.W.Frag) (G H : Hp) (ρ : Env) (σ : St) (v : V) : Rs → Prop
  | .fz d => Rp fa K G v d
  | .fr d => ∃ p, v = .ref p ∧ G p = none ∧ ¬ Lof ρ σ p ∧ Own fa K G H p d
  | .gv d => ∃ p, v = .ref p ∧ G p = none ∧ ¬ Lof ρ σ p ∧ Own fa K G H p d
  | .sl i => σ[i]? = some (some v) ∧ (slot ρ i).isSome = true
  | .bo i => σ[i]? = some (some v) ∧ (slot ρ i).isSome = true
  | .le i => σ[i]? = some (some v) ∧ (slot ρ i).isSome = true
  | _ => False
/-- a new one wasn't there -/
def NewOk (H : Hp) (v : V) : Rs → Prop
  | .fr _ => ∀ p, v = .ref p → H p = none
  | .gv _ => ∀ p, v = .ref p → H p = none
  | _ => True
theorem NewOk.back {H H' : Hp} {v : V} {r : Rs} (d : ∀ a, H a ≠ none → H' a ≠ none) (h : NewOk H' v r) : NewOk H v r := by
  cases r <;> first
    | trivial
    | (intro p e
       cases q : H p with
       | none => rfl
       | some o => exact absurd (h p e) (d p (by rw [q]; simp)))
end Ev
end

section
set_option Elab.async false
set_option linter.all false
set_option maxRecDepth 100000
/-! EvQ: states, and what is handed on from one to the next. -/
namespace Ev
open PySem PySem.Spec L2

/-! ### slots -/
theorem slot_lt {ρ : Env} {i : Nat} {s : Slot} (h : slot ρ i = some s) : i < ρ.length := by
  unfold slot at h
  by_cases q : i < ρ.length
  · exact q
  · rw [List.getElem?_eq_none (by omega)] at h; cases h
theorem slot_get {ρ : Env} {i : Nat} {s : Slot} : slot ρ i = some s ↔ ρ[i]? = some (some s) := by
  unfold slot
  cases e : ρ[i]? with
  | none => simp
  | some t => simp
theorem slot_set {ρ : Env} {i : Nat} {s : Option Slot} (h : i < ρ.length) : slot (ρ.set i s) i = s := by
  unfold slot
  rw [List.getElem?_set_self h]
theorem slot_ne {ρ : Env} {i j : Nat} {s : Option Slot} (h : i ≠ j) : slot (ρ.set i s) j = slot ρ j := by
  unfold slot
  rw [List.getElem?_set_ne h]
theorem slot_set' {ρ : Env} {i j : Nat} {s : Option Slot} : slot (ρ.set i s) j = if i = j then (if j < ρ.length then s else none) else slot ρ j := by
  by_cases e : i = j
  · subst e
    rw [if_pos rfl]
    by_cases q : i < ρ.length
    · rw [if_pos q, slot_set q]
    · rw [if_neg q]
      unfold slot
      rw [List.getElem?_eq_none (by simpa using q)]
  · rw [if_neg e, slot_ne e]

/-! ### the new ones -/
def frA : V → Rs → Option Addr
  | .ref p, .fr _ => some p
  | .ref p, .gv _ => some p
  | _, _ => none
def frAll : List V → List Rs → Addr → Prop
  | v :: vs, r :: rs, a => frA v r = some a ∨ frAll vs rs a
  | _, _, _ => False
theorem NewOk.fr {H : Hp} {v : V} {r : Rs} {a : Addr} (h : NewOk H v r) (e : frA v r = some a) : H a = none := by
  cases v <;> cases r <;> simp [frA] at e
  · subst e; exact h _ rfl
  · subst e; exact h _ rfl
def NewAll (H : Hp) (vs : List V) (rs : List Rs) : Prop := ∀ a, frAll vs rs a → H a = none
inductive RsA (fa : Fa) (K : PySem.W.Frag) (G H : Hp) (ρ : Env) (σ : L2.St) : List V → List Rs → Prop
  | nil : RsA fa K G H ρ σ [] []
  | cons {v : V} {vs : List V} {r : Rs} {rs : List Rs} : ResOk fa K G H ρ σ v r → RsA fa K G H ρ σ vs rs → (∀ a, frA v r = some a → ¬ frAll vs rs a) → RsA fa K G H ρ σ (v :: vs) (r :: rs)

section
variable {fa : Fa} {K : PySem.W.Frag} {G0 G G' H H' : Hp} {ρ ρ' : Env} {σ σ' : L2.St} {v : V} {r : Rs} {L L' M : Addr → Prop}

theorem Step.more (s : Step L L' G H G' H') (h : ∀ a, M a → H a = none) : Step L (fun a => L' a ∨ M a) G H G' H' :=
  ⟨s.mono, fun a h1 h2 h3 => by
    obtain ⟨e1, e2, e3⟩ := s.keep a h1 h2 h3
    exact ⟨e1, e2, fun z => z.elim e3 fun m => h1 (h a m)⟩, s.dom, fun a xs h1 h3 => ⟨(s.still a xs h1 h3).1, fun z => z.elim (s.still a xs h1 h3).2 fun m => by rw [h a m] at h1; cases h1⟩⟩
theorem Step.weak (s : Step L L' G H G' H') (h : ∀ a, M a → L' a) : Step L M G H G' H' :=
  ⟨s.mono, fun a h1 h2 h3 => by
    obtain ⟨e1, e2, e3⟩ := s.keep a h1 h2 h3
    exact ⟨e1, e2, fun z => e3 (h a z)⟩, s.dom, fun a xs h1 h3 => ⟨(s.still a xs h1 h3).1, fun z => (s.still a xs h1 h3).2 (h a z)⟩⟩
theorem Step.from (s : Step L L' G H G' H') (h : ∀ a, L a → M a) : Step M L' G H G' H' :=
  ⟨s.mono, fun a h1 h2 h3 => s.keep a h1 h2 fun z => h3 (h a z), s.dom, fun a xs h1 h3 => s.still a xs h1 fun z => h3 (h a z)⟩

/-- .. the second may have more to change -/
theorem Step.trans' {L1 L2' L3 N : Addr → Prop} {G1 H1 G2 G3 : Hp} (a : Step L1 L2' G1 H1 G2 H1) (b : Step N L3 G2 H1 G3 H1) (h : ∀ x, N x → L2' x ∨ L1 x) : Step L1 L3 G1 H1 G3 H1 where
  mono := a.mono.trans b.mono
  keep := fun x q n l => by
    obtain ⟨e1, e2, e3⟩ := a.keep x q n l
    rcases e2 with e2 | e2
    · exact b.keep x q e2 fun z => (h x z).elim e3 l
    · obtain ⟨xs, e2⟩ := e2
      obtain ⟨f1, f3⟩ := b.still x xs e2 fun z => (h x z).elim e3 l
      exact ⟨f1, .inr ⟨xs, e2⟩, f3⟩
  dom := fun x q => q
  still := fun x xs q l => b.still x xs q fun z => (h x z).elim (a.still x xs q l).2 l
/-- a result stays what it is while other things are done -/
theorem ResOk.step (h : ResOk fa K G H ρ σ v r) (s : Step (Lof ρ σ) (Lof ρ' σ) G H G' H') (fx : ∀ i, (slot ρ i).isSome = true → (slot ρ' i).isSome = true) : ResOk fa K G' H' ρ' σ v r := by
  have fr : ∀ {d : D}, (∃ p, v = .ref p ∧ G p = none ∧ ¬ Lof ρ σ p ∧ Own fa K G H p d) → ∃ p, v = .ref p ∧ G' p = none ∧ ¬ Lof ρ' σ p ∧ Own fa K G' H' p d := by
    rintro d ⟨p, e, n, l, o⟩
    obtain ⟨w, hw, _, nt⟩ := o.there
    obtain ⟨e1, e2, e3⟩ := s.at' hw nt n l
    exact ⟨p, e, e2, e3, o.step s.mono e1⟩
  cases r with
  | fz d => exact Rp.mono s.mono h
  | fr d => exact fr h
  | gv d => exact fr h
  | sl i => exact ⟨h.1, fx i h.2⟩
  | bo i => exact ⟨h.1, fx i h.2⟩
  | le i => exact ⟨h.1, fx i h.2⟩
  | st _ => exact h
  | ls _ => exact h
  | its _ _ => exact h
theorem ResOk.frA_own (h : ResOk fa K G H ρ σ v r) {a : Addr} (e : frA v r = some a) : G a = none ∧ ¬ Lof ρ σ a ∧ H a ≠ none := by
  cases v <;> cases r <;> simp [frA] at e <;> subst e <;> (obtain ⟨p, e1, n, l, o⟩ := h; cases e1; obtain ⟨w, hw, _⟩ := o.there; exact ⟨n, l, by rw [hw]; simp⟩)
theorem RsA.step {vs : List V} {rs : List Rs} (h : RsA fa K G H ρ σ vs rs) (s : Step (Lof ρ σ) (Lof ρ' σ) G H G' H') (fx : ∀ i, (slot ρ i).isSome = true → (slot ρ' i).isSome = true) : RsA fa K G' H' ρ' σ vs rs := by
  induction h with
  | nil => exact .nil
  | cons h1 h2 h3 ih => exact .cons (h1.step s fx) ih h3
theorem RsA.own {vs : List V} {rs : List Rs} (h : RsA fa K G H ρ σ vs rs) : ∀ a, frAll vs rs a → G a = none ∧ ¬ Lof ρ σ a ∧ H a ≠ none := by
  induction h with
  | nil => exact fun a z => z.elim
  | cons h1 h2 h3 ih => exact fun a z => z.elim (fun e => h1.frA_own e) (ih a)

/-! ### to read, to keep -/
/-- what can be read -/
def Rdb (fa : Fa) (K : PySem.W.Frag) (G H : Hp) (v : V) (d : D) : Prop := Rp fa K G v d ∨ ∃ p, v = .ref p ∧ G p = none ∧ Own fa K G H p d
theorem SlotOk.rdb {s : Slot} (h : SlotOk fa K G H L v s) : Rdb fa K G H v s.d := by
  cases s with
  | fz d => exact .inl h
  | ow d => exact .inr h
  | ln d => exact .inr h
  | lk d =>
    rcases h with h | ⟨p, e, n, _, o⟩
    · exact .inl h
    · exact .inr ⟨p, e, n, o⟩
theorem rd_ok (E : EnvOk fa K G0 G H ρ σ) {d : D} (h : ResOk fa K G H ρ σ v r) (e : rd r ρ = some d) : Rdb fa K G H v d := by
  cases r with
  | fz d' => cases e; exact .inl h
  | fr d' =>
    cases e
    obtain ⟨p, e, n, l, o⟩ := h
    exact .inr ⟨p, e, n, o⟩
  | sl i =>
    simp only [rd] at e
    cases q : slot ρ i with
    | none => rw [q] at e; cases e
    | some s =>
      rw [q] at e
      cases e
      obtain ⟨u, h1, h2⟩ := E.val i s q
      rw [h.1] at h1
      cases h1
      exact h2.rdb
  | _ => cases e
inductive RdA (fa : Fa) (K : PySem.W.Frag) (G H : Hp) : List V → List D → Prop
  | nil : RdA fa K G H [] []
  | cons {v : V} {vs : List V} {d : D} {ds : List D} : Rdb fa K G H v d → RdA fa K G H vs ds → RdA fa K G H (v :: vs) (d :: ds)
theorem rdAll_ok (E : EnvOk fa K G0 G H ρ σ) {vs : List V} {rs : List Rs} (h : RsA fa K G H ρ σ vs rs) : ∀ {ds : List D}, rdAll rs ρ = some ds → RdA fa K G H vs ds := by
  induction h with
  | nil => intro ds e; cases e; exact .nil
  | @cons v vs r rs h1 h2 h3 ih =>
    intro ds e
    unfold rdAll at e
    cases q : rd r ρ with
    | none => rw [q] at e; cases e
    | some d =>
      cases q2 : rdAll rs ρ with
      | none => rw [q, q2] at e; cases e
      | some ds' =>
        rw [q, q2] at e
        cases e
        exact .cons (rd_ok E h1 q) (ih q2)

/-- a name's own list stands still from now on -/
theorem freeze_slot (E : EnvOk fa K G0 G H ρ σ) {i : Nat} {d : D} (hs : slot ρ i = some (.ow d)) :
    ∃ G' p v, σ[i]? = some (some v) ∧ v = .ref p ∧ EnvOk fa K G0 G' H (ρ.set i (some (.fz d))) σ ∧ Step (Lof ρ σ) (Lof (ρ.set i (some (.fz d))) σ) G H G' H ∧ Rp fa K G' v d := by
  obtain ⟨v, hv, p, rfl, hn, ho⟩ := E.val i _ hs
  obtain ⟨o, hp, nf, _⟩ := ho.there
  have hi := slot_lt hs
  have sG : Sub G (upd G p o) := Sub.new hn
  have lsub : ∀ a, Lof (ρ.set i (some (.fz d))) σ a → Lof ρ σ a ∧ a ≠ p := by
    rintro a ⟨j, s, h1, h2, h3⟩
    by_cases e : i = j
    · subst e
      rw [slot_set hi] at h1
      cases h1
      cases h2
    · rw [slot_ne e] at h1
      refine ⟨⟨j, s, h1, h2, h3⟩, fun z => ?_⟩
      subst z
      exact e (E.inj i j _ s hs h1 rfl h2 (by rw [hv, h3]))
  have hL : Lof ρ σ p := ⟨i, _, hs, rfl, hv⟩
  refine ⟨upd G p o, p, .ref p, hv, rfl, ⟨E.sub.vis hp nf, E.low.trans sG, by rw [List.length_set]; exact E.len, fun j s h => ?_, fun j k s t h1 h2 h3 h4 h5 => ?_⟩, Step.see sG (fun a h1 h2 h3 => ?_) (fun a z => (lsub a z).1), ho.frz hp hn⟩
  · by_cases e : i = j
    · subst e
      rw [slot_set hi] at h
      cases h
      exact ⟨.ref p, hv, ho.frz hp hn⟩
    · rw [slot_ne e] at h
      obtain ⟨u, hu, ok⟩ := E.val j s h
      refine ⟨u, hu, ?_⟩
      have far : ∀ q, u = .ref q → isOw s = true → q ≠ p := fun q e1 e2 e3 => by
        subst e1; subst e3
        exact e (E.inj i j _ s hs h rfl e2 (by rw [hv, hu]))
      have ofar : ∀ q d', q ≠ p → Own fa K G H q d' → Own fa K (upd G p o) H q d' := fun q d' _ w => w.step sG rfl
      cases s with
      | fz d' => exact Rp.mono sG ok
      | ow d' =>
        obtain ⟨q, e1, n, w⟩ := ok
        exact ⟨q, e1, by rw [upd_ne (far q e1 rfl)]; exact n, w.step sG rfl⟩
      | ln d' =>
        obtain ⟨q, e1, n, w⟩ := ok
        exact ⟨q, e1, by rw [upd_ne (far q e1 rfl)]; exact n, w.step sG rfl⟩
      | lk d' =>
        rcases ok with ok | ⟨q, e1, n, l, w⟩
        · exact .inl (Rp.mono sG ok)
        · have qp : q ≠ p := fun z => l (by rw [z]; exact hL)
          exact .inr ⟨q, e1, by rw [upd_ne qp]; exact n, fun z => l (lsub q z).1, w.step sG rfl⟩
  · by_cases e1 : i = j
    · subst e1
      rw [slot_set hi] at h1
      cases h1
      cases h3
    · by_cases e2 : i = k
      · subst e2
        rw [slot_set hi] at h2
        cases h2
        cases h4
      · rw [slot_ne e1] at h1
        rw [slot_ne e2] at h2
        exact E.inj j k s t h1 h2 h3 h4 h5
  · rw [upd_ne (fun z => h3 (by rw [z]; exact hL))]
    exact h2
theorem some_set {ρ : Env} {i : Nat} {s : Slot} : ∀ j, (slot ρ j).isSome = true → (slot (ρ.set i (some s)) j).isSome = true := fun j h => by
  rw [slot_set']
  by_cases e : i = j
  · rw [if_pos e]
    cases q : slot ρ j with
    | none => rw [q] at h; cases h
    | some t => rw [if_pos (slot_lt q)]; rfl
  · rw [if_neg e]; exact h
theorem fix_fz {ρ : Env} {i : Nat} {d : D} : Fix ρ (ρ.set i (some (.fz d))) σ σ := fun j h => by
  rw [slot_set'] at h ⊢
  by_cases e : i = j
  · rw [if_pos e] at h
    split at h <;> exact absurd rfl h
  · rw [if_neg e] at h ⊢
    exact ⟨rfl, rfl, fun _ => rfl⟩
/-- the heap where a new one is seen by all -/
theorem freeze_new (E : EnvOk fa K G0 G H ρ σ) {p : Addr} {d : D} (hn : G p = none) (hl : ¬ Lof ρ σ p) (ho : Own fa K G H p d) :
    ∃ G', Rp fa K G' (.ref p) d ∧ Sub G G' ∧ (∀ a, a ≠ p → G' a = G a) ∧ Sub G' H ∧ EnvOk fa K G0 G' H ρ σ := by
  obtain ⟨o, hp, nf, _⟩ := ho.there
  have sG : Sub G (upd G p o) := Sub.new hn
  refine ⟨upd G p o, ho.frz hp hn, sG, fun a e => upd_ne e, E.sub.vis hp nf, E.sub.vis hp nf, E.low.trans sG, E.len, fun j s h => ?_, E.inj⟩
  obtain ⟨u, hu, ok⟩ := E.val j s h
  refine ⟨u, hu, ?_⟩
  cases s with
  | fz d' => exact Rp.mono sG ok
  | ow d' =>
    obtain ⟨q, e1, n, w⟩ := ok
    have qp : q ≠ p := fun z => hl ⟨j, _, h, rfl, by rw [hu, e1, z]⟩
    exact ⟨q, e1, by rw [upd_ne qp]; exact n, w.step sG rfl⟩
  | ln d' =>
    obtain ⟨q, e1, n, w⟩ := ok
    have qp : q ≠ p := fun z => hl ⟨j, _, h, rfl, by rw [hu, e1, z]⟩
    exact ⟨q, e1, by rw [upd_ne qp]; exact n, w.step sG rfl⟩
  | lk d' =>
    rcases ok with ok | ⟨q, e1, n, l, w⟩
    · exact .inl (Rp.mono sG ok)
    · by_cases qp : q = p
      · subst qp
        rw [e1]
        exact .inl (w.frz hp hn)
      · exact .inr ⟨q, e1, by rw [upd_ne qp]; exact n, l, w.step sG rfl⟩
theorem tk_ok (E : EnvOk fa K G0 G H ρ σ) (h : ResOk fa K G H ρ σ v r) {d : D} (e : tk r ρ = some (d, ρ')) :
    ∃ G', EnvOk fa K G0 G' H ρ' σ ∧ Step (fun a => Lof ρ σ a ∨ frA v r = some a) (Lof ρ' σ) G H G' H ∧ Rp fa K G' v d ∧ Fix ρ ρ' σ σ ∧ ∀ i, (slot ρ i).isSome = true → (slot ρ' i).isSome = true := by
  cases r with
  | fz d' => cases e; exact ⟨G, E, (Step.refl _ G H).from fun _ h => .inl h, h, Fix.refl _ _, fun _ h => h⟩
  | fr d' =>
    cases e
    obtain ⟨p, rfl, hn, hl, ho⟩ := h
    obtain ⟨G', h1, h2, h3, h4, h5⟩ := freeze_new E hn hl ho
    refine ⟨G', h5, Step.see h2 (fun a q1 q2 q3 => ?_) (fun a z => .inl z), h1, Fix.refl _ _, fun _ h => h⟩
    rw [h3 a fun z => q3 (.inr (by rw [z]; rfl))]
    exact q2
  | sl i =>
    simp only [tk] at e
    cases q : slot ρ i with
    | none => rw [q] at e; cases e
    | some s =>
      rw [q] at e
      cases s with
      | fz d' =>
        cases e
        obtain ⟨u, h1, h2⟩ := E.val i _ q
        rw [h.1] at h1
        cases h1
        exact ⟨G, E, (Step.refl _ G H).from fun _ h => .inl h, h2, Fix.refl _ _, fun _ h => h⟩
      | ow d' =>
        cases e
        obtain ⟨G', p, u, h1, rfl, h2, h3, h4⟩ := freeze_slot E q
        rw [h.1] at h1
        cases h1
        exact ⟨G', h2, h3.from fun _ h => .inl h, h4, fix_fz, some_set⟩
      | ln d' => cases e
      | lk d' => cases e
  | _ => cases e
theorem tkAll_ok : ∀ {rs : List Rs} {vs : List V} {G : Hp} {ρ ρ' : Env} {ds : List D}, EnvOk fa K G0 G H ρ σ → RsA fa K G H ρ σ vs rs → tkAll rs ρ = some (ds, ρ') →
    ∃ G', EnvOk fa K G0 G' H ρ' σ ∧ Step (fun a => Lof ρ σ a ∨ frAll vs rs a) (Lof ρ' σ) G H G' H ∧ RpA fa K G' vs ds ∧ Fix ρ ρ' σ σ ∧ ∀ i, (slot ρ i).isSome = true → (slot ρ' i).isSome = true
  | [], _, G, ρ, ρ', ds, E, h, e => by
    cases h
    cases e
    exact ⟨G, E, (Step.refl _ G H).from fun _ h => .inl h, .nil, Fix.refl _ _, fun _ h => h⟩
  | r :: rs, _, G, ρ, ρ', ds, E, h, e => by
    cases h with
    | @cons v vs _ _ h1 h2 h3 =>
      unfold tkAll at e
      cases q : tk r ρ with
      | none => rw [q] at e; cases e
      | some dr =>
        obtain ⟨d, ρ1⟩ := dr
        rw [q] at e
        cases q2 : tkAll rs ρ1 with
        | none => simp only [q2] at e; cases e
        | some dr2 =>
          obtain ⟨ds', ρ2⟩ := dr2
          simp only [q2] at e
          cases e
          obtain ⟨G1, E1, S1, R1, F1, I1⟩ := tk_ok E h1 q
          have own := h2.own
          have S1' : Step (Lof ρ σ) (Lof ρ1 σ) G H G1 H ∨ True := .inr trivial
          have h2' : RsA fa K G1 H ρ1 σ vs rs := by
            clear q2
            induction h2 with
            | nil => exact .nil
            | @cons w ws t ts g1 g2 g3 ih =>
              refine .cons ?_ (ih (fun a e z => h3 a e (.inr z)) (fun a z => own a (.inr z))) g3
              have fr : ∀ {d : D}, (∃ p, w = .ref p ∧ G p = none ∧ ¬ Lof ρ σ p ∧ Own fa K G H p d) → (∀ p, w = .ref p → frA w t = some p) → ∃ p, w = .ref p ∧ G1 p = none ∧ ¬ Lof ρ1 σ p ∧ Own fa K G1 H p d := by
                rintro d ⟨p, e, n, l, o⟩ hf
                obtain ⟨u, hu, _, nt⟩ := o.there
                have nf : ¬ frA v r = some p := fun z => h3 p z (.inl (hf p e))
                obtain ⟨_, e2, e3⟩ := S1.at' hu nt n (fun z => z.elim l nf)
                exact ⟨p, e, e2, e3, o.step S1.mono rfl⟩
              cases t with
              | fz d => exact Rp.mono S1.mono g1
              | fr d => exact fr g1 fun p e => by rw [e]; rfl
              | gv d => exact fr g1 fun p e => by rw [e]; rfl
              | sl i => exact ⟨g1.1, I1 i g1.2⟩
              | bo i => exact ⟨g1.1, I1 i g1.2⟩
              | le i => exact ⟨g1.1, I1 i g1.2⟩
              | st _ => exact g1
              | ls _ => exact g1
              | its _ _ => exact g1
          obtain ⟨G2, E2, S2, R2, F2, I2⟩ := tkAll_ok E1 h2' q2
          refine ⟨G2, E2, (S1.from fun a z => z.elim .inl fun w => .inr (.inl w)).trans' S2 (fun a h => h.elim .inl fun z => .inr (.inr (.inr z))), .cons (Rp.mono S2.mono R1) R2, F1.trans F2, fun i h => I2 i (I1 i h)⟩
end
end Ev
end

section
set_option Elab.async false
set_option linter.all false
set_option maxRecDepth 100000
/-! EvX: the evaluator's results as readings of the hand layer. -/
namespace Ev
open PySem PySem.Spec L2

/-- where things stand: the text's written part, its defs, its classes of errors -/
structure Tb where
  prog : Program
  w : World
  K : PySem.W.Frag
  mg : Str → Option Value
  base : Heap
  fa : Fa
  pr : Prog
  eA : Nat → Option Addr
  eF : Nat → Option Str
  G0 : Hp

def ExOk (T : Tb) (G H : Hp) (cls : Value) (dd : Option Addr) (c : Nat) (d : D) : Prop :=
  ∃ a, T.eA c = some a ∧ cls = .ref a ∧ match T.eF c with
    | some f => ∃ x v e, dd = some x ∧ H x = some (.xd [(f, v)]) ∧ d = .tup [e] ∧ Rp T.fa T.K G v e
    | none => dd = none ∧ d = .tup []
abbrev St' := L2.St
abbrev Tb.Env (T : Tb) (G H : Hp) (ρ : Env) (σ : St') : Prop := EnvOk T.fa T.K T.G0 G H ρ σ
/-- from one state to another -/
structure Go (T : Tb) (G H : Hp) (ρ : Env) (σ : St') (G' H' : Hp) (ρ' : Env) (σ' : St') : Prop where
  env : T.Env G' H' ρ' σ'
  step : Step (Lof ρ σ) (Lof ρ' σ') G H G' H'
  fix : Fix ρ ρ' σ σ'
/-- .. within an expression: a name that holds something goes on to hold something -/
structure GoE (T : Tb) (G H : Hp) (ρ : Env) (σ : St') (G' H' : Hp) (ρ' : Env) : Prop extends Go T G H ρ σ G' H' ρ' σ where
  some : ∀ i, (slot ρ i).isSome = true → (slot ρ' i).isSome = true
section
variable {T : Tb} {G H G1 H1 G2 H2 : Hp} {ρ ρ1 ρ2 : Env} {σ σ1 σ2 : St'}
theorem Go.refl (E : T.Env G H ρ σ) : Go T G H ρ σ G H ρ σ := ⟨E, Step.refl _ _ _, Fix.refl _ _⟩
theorem Go.trans (a : Go T G H ρ σ G1 H1 ρ1 σ1) (b : Go T G1 H1 ρ1 σ1 G2 H2 ρ2 σ2) : Go T G H ρ σ G2 H2 ρ2 σ2 := ⟨b.env, a.step.trans b.step, a.fix.trans b.fix⟩
theorem GoE.refl (E : T.Env G H ρ σ) : GoE T G H ρ σ G H ρ := ⟨Go.refl E, fun _ h => h⟩
theorem GoE.trans (a : GoE T G H ρ σ G1 H1 ρ1) (b : GoE T G1 H1 ρ1 σ G2 H2 ρ2) : GoE T G H ρ σ G2 H2 ρ2 := ⟨a.toGo.trans b.toGo, fun i h => b.some i (a.some i h)⟩
end

theorem NewAll.back {H H' : Hp} {vs : List V} {rs : List Rs} (d : ∀ a, H a ≠ none → H' a ≠ none) (h : NewAll H' vs rs) : NewAll H vs rs := fun a z => by
  cases q : H a with
  | none => rfl
  | some o => exact absurd (h a z) (d a (by rw [q]; simp))

/-! ### what is wanted behind a result -/
/-- one value -/
def Run (T : Tb) (W : WX) (G H : Hp) (ρ : Env) (σ : St') (r : R) (Q : Rs → Env → V → Hp → Hp → Prop) : Prop := match r with
  | .ok r ρ' => ∀ v G' H', GoE T G H ρ σ G' H' ρ' → ResOk T.fa T.K G' H' ρ' σ v r → NewOk H v r → Q r ρ' v G' H'
  | .ex c d ρ' => ∀ G' H' cls dd, GoE T G H ρ σ G' H' ρ' → ExOk T G' H' cls dd c d → W cls dd σ H'
  | .no => False
/-- a list -/
def RunL (T : Tb) (W : WX) (G H : Hp) (ρ : Env) (σ : St') (r : R) (Q : List Rs → Env → List V → Hp → Hp → Prop) : Prop := match r with
  | .ok (.ls l) ρ' => ∀ vs G' H', GoE T G H ρ σ G' H' ρ' → RsA T.fa T.K G' H' ρ' σ vs l → NewAll H vs l → Q l ρ' vs G' H'
  | .ok _ _ => False
  | .ex c d ρ' => ∀ G' H' cls dd, GoE T G H ρ σ G' H' ρ' → ExOk T G' H' cls dd c d → W cls dd σ H'
  | .no => False
def single : Rs → Bool
  | .fz _ => true
  | .fr _ => true
  | .sl _ => true
  | _ => false
section
variable {T : Tb} {W : WX} {G H G1 H1 : Hp} {ρ ρ1 : Env} {σ : St'} {r : R} {Q : Rs → Env → V → Hp → Hp → Prop} {QL : List Rs → Env → List V → Hp → Hp → Prop}
theorem Run.from (g : GoE T G H ρ σ G1 H1 ρ1) (h : Run T W G H ρ σ r Q) : Run T W G1 H1 ρ1 σ r Q := by
  cases r with
  | ok r ρ' => exact fun v G' H' g' rk nk => h v G' H' (g.trans g') rk (nk.back g.step.dom)
  | ex c d ρ' => exact fun G' H' cls dd g' e => h G' H' cls dd (g.trans g') e
  | no => exact h
theorem RunL.from (g : GoE T G H ρ σ G1 H1 ρ1) (h : RunL T W G H ρ σ r QL) : RunL T W G1 H1 ρ1 σ r QL := by
  cases r with
  | ok r ρ' =>
    cases r with
    | ls l => exact fun v G' H' g' rk nk => h v G' H' (g.trans g') rk (nk.back g.step.dom)
    | _ => exact h
  | ex c d ρ' => exact fun G' H' cls dd g' e => h G' H' cls dd (g.trans g') e
  | no => exact h
theorem Run.mono {Q' : Rs → Env → V → Hp → Hp → Prop} (h : Run T W G H ρ σ r Q) (m : ∀ x ρ' v G' H', GoE T G H ρ σ G' H' ρ' → ResOk T.fa T.K G' H' ρ' σ v x → NewOk H v x → Q x ρ' v G' H' → Q' x ρ' v G' H') : Run T W G H ρ σ r Q' := by
  cases r with
  | ok r ρ' => exact fun v G' H' g' rk nk => m _ _ _ _ _ g' rk nk (h v G' H' g' rk nk)
  | ex c d ρ' => exact h
  | no => exact h
/-- one behind the other -/
theorem Run.b1 {k : Rs → Env → R} (h : Run T W G H ρ σ (r.b1 k) Q) : Run T W G H ρ σ r fun x ρ1 v G1 H1 => single x = true ∧ Run T W G1 H1 ρ1 σ (k x ρ1) Q := by
  cases r with
  | ok r ρ' =>
    intro v G' H' g rk nk
    cases r <;> first
      | exact ⟨rfl, Run.from g h⟩
      | exact absurd h (by intro z; exact z)
  | ex c d ρ' => exact h
  | no => exact h
/-- one behind the other, told from the start -/
theorem Run.b1k {k : Rs → Env → R} (h : Run T W G H ρ σ (r.b1 k) Q) : Run T W G H ρ σ r fun x ρ1 v G1 H1 => single x = true ∧ Run T W G H ρ σ (k x ρ1) Q := by
  cases r with
  | ok r ρ' =>
    intro v G' H' g rk nk
    cases r <;> first
      | exact ⟨rfl, h⟩
      | exact absurd h (by intro z; exact z)
  | ex c d ρ' => exact h
  | no => exact h
theorem Run.blk {k : List Rs → Env → R} (h : Run T W G H ρ σ (r.bl k) Q) : RunL T W G H ρ σ r fun l ρ1 vs G1 H1 => Run T W G H ρ σ (k l ρ1) Q := by
  cases r with
  | ok r ρ' =>
    cases r <;> first
      | exact fun v G' H' g rk nk => h
      | exact absurd h (by intro z; exact z)
  | ex c d ρ' => exact h
  | no => exact h
theorem RunL.blk {k : List Rs → Env → R} (h : RunL T W G H ρ σ (r.bl k) QL) : RunL T W G H ρ σ r fun l ρ1 vs G1 H1 => RunL T W G H ρ σ (k l ρ1) QL := by
  cases r with
  | ok r ρ' =>
    cases r <;> first
      | exact fun v G' H' g rk nk => h
      | exact absurd h (by intro z; exact z)
  | ex c d ρ' => exact h
  | no => exact h
theorem RunL.mono {Q' : List Rs → Env → List V → Hp → Hp → Prop} (h : RunL T W G H ρ σ r QL) (m : ∀ x ρ' v G' H', GoE T G H ρ σ G' H' ρ' → RsA T.fa T.K G' H' ρ' σ v x → NewAll H v x → QL x ρ' v G' H' → Q' x ρ' v G' H') : RunL T W G H ρ σ r Q' := by
  cases r with
  | ok r ρ' =>
    cases r <;> first
      | exact fun v G' H' g rk nk => m _ _ _ _ _ g rk nk (h v G' H' g rk nk)
      | exact h
  | ex c d ρ' => exact h
  | no => exact h
theorem Run.bl {k : List Rs → Env → R} (h : Run T W G H ρ σ (r.bl k) Q) : RunL T W G H ρ σ r fun l ρ1 vs G1 H1 => Run T W G1 H1 ρ1 σ (k l ρ1) Q := by
  cases r with
  | ok r ρ' =>
    cases r <;> first
      | exact fun v G' H' g rk nk => Run.from g h
      | exact absurd h (by intro z; exact z)
  | ex c d ρ' => exact h
  | no => exact h
theorem RunL.bl {k : List Rs → Env → R} (h : RunL T W G H ρ σ (r.bl k) QL) : RunL T W G H ρ σ r fun l ρ1 vs G1 H1 => RunL T W G1 H1 ρ1 σ (k l ρ1) QL := by
  cases r with
  | ok r ρ' =>
    cases r <;> first
      | exact fun v G' H' g rk nk => RunL.from g h
      | exact absurd h (by intro z; exact z)
  | ex c d ρ' => exact h
  | no => exact h
end

/-! ### readings -/
def TEv (T : Tb) (W : WX) (f : Env → R) : TE := fun σ H Q => ∃ G ρ, T.Env G H ρ σ ∧ Run T W G H ρ σ (f ρ) fun _ _ v _ H' => Q v H'
/-- .. with what is left behind -/
theorem TEv.mk {T : Tb} {W : WX} {f : Env → R} {σ : St'} {G H : Hp} {ρ : Env} {Q : VK} {Q' : Rs → Env → V → Hp → Hp → Prop} (E : T.Env G H ρ σ) (h : Run T W G H ρ σ (f ρ) Q')
    (m : ∀ x ρ' v G' H', GoE T G H ρ σ G' H' ρ' → ResOk T.fa T.K G' H' ρ' σ v x → NewOk H v x → Q' x ρ' v G' H' → Q v H') : TEv T W f σ H Q := ⟨G, ρ, E, h.mono m⟩
def TTv (T : Tb) (W : WX) (f : Env → R) : TT := fun σ H Q => ∃ G ρ, T.Env G H ρ σ ∧ Run T W G H ρ σ (f ρ) fun x ρ' _ _ H' => ∃ b, tests x ρ' = some b ∧ Q b H'
def TAv (T : Tb) (W : WX) (f : Env → R) : TA := fun σ H Q => ∃ G ρ, T.Env G H ρ σ ∧ RunL T W G H ρ σ (f ρ) fun _ _ vs _ H' => Q vs H'

theorem _root_.L2.PE.imp {X : Cx} {e : Expr} {t t' : TE} (h : PE X e t) (i : ∀ σ H Q, t' σ H Q → t σ H Q) : PE X e t' := ⟨fun pins s σ H Q I hw => h.run pins s σ H Q I (i σ H Q hw)⟩
theorem _root_.L2.PT.imp {X : Cx} {e : Expr} {t t' : TT} (h : PT X e t) (i : ∀ σ H Q, t' σ H Q → t σ H Q) : PT X e t' := ⟨fun pins s σ H Q I hw => h.run pins s σ H Q I (i σ H Q hw)⟩
theorem _root_.L2.PA.imp {X : Cx} {e : List Expr} {t t' : TA} (h : PA X e t) (i : ∀ σ H Q, t' σ H Q → t σ H Q) : PA X e t' := ⟨fun pos pins s σ H Q I hw => h.run pos pins s σ H Q I (i σ H Q hw)⟩
theorem _root_.L2.PS.imp {X : Cx} {e : Stmt} {t t' : TS} (h : PS X e t) (i : ∀ D σ H, t' D σ H → t D σ H) : PS X e t' := ⟨fun pins s σ H D I hw => h.run pins s σ H D I (i D σ H hw)⟩
theorem _root_.L2.PSs.imp {X : Cx} {e : List Stmt} {t t' : TS} (h : PSs X e t) (i : ∀ D σ H, t' D σ H → t D σ H) : PSs X e t' := ⟨fun pins s σ H D I hw => h.run pins s σ H D I (i D σ H hw)⟩

/-! ### operators by values, over data -/
/-- what an operator leaves: new things alone -/
structure New (T : Tb) (G H G' H' : Hp) : Prop where
  sub : Sub G' H'
  mono : Sub G G'
  old : ∀ a, H a ≠ none → H' a = H a ∧ (G a = none → G' a = none ∨ ∃ xs, H a = some (.tup xs))
theorem New.refl {T : Tb} {G H : Hp} (s : Sub G H) : New T G H G H := ⟨s, Sub.refl _, fun _ _ => ⟨rfl, fun h => .inl h⟩⟩
/-- a result by value -/
def Res (T : Tb) (G H : Hp) (v : V) : Rs → Prop
  | .fz d => Rp T.fa T.K G v d
  | .fr d => ∃ p, v = .ref p ∧ G p = none ∧ Own T.fa T.K G H p d
  | _ => False
/-- what is handed on: a result by value -/
def Ret (T : Tb) (G H : Hp) (Q : VK) (o : Option Rs) : Prop := ∃ r, o = some r ∧ ∀ v G' H', New T G H G' H' → Res T G' H' v r → NewOk H v r → Q v H'
section
variable {T : Tb} {G H G' H' : Hp} {ρ : Env} {σ : St'}
theorem New.go (E : T.Env G H ρ σ) (n : New T G H G' H') : GoE T G H ρ σ G' H' ρ := by
  have own : ∀ {p d}, G p = none → Own T.fa T.K G H p d → G' p = none ∧ Own T.fa T.K G' H' p d := fun {p d} q o => by
    obtain ⟨w, hw, _, nt⟩ := o.there
    obtain ⟨e1, e2⟩ := n.old p (by rw [hw]; simp)
    rcases e2 q with e2 | ⟨xs, e2⟩
    · exact ⟨e2, o.step n.mono e1⟩
    · rw [hw] at e2
      exact absurd (Option.some.inj e2) (nt xs)
  refine ⟨⟨⟨n.sub, E.low.trans n.mono, E.len, fun i s h => ?_, E.inj⟩, ⟨n.mono, fun a h1 h2 h3 => ⟨(n.old a h1).1, (n.old a h1).2 h2, h3⟩, fun a h => by rw [(n.old a h).1]; exact h, fun a xs h l => ⟨(n.old a (by rw [h]; simp)).1, l⟩⟩, Fix.refl _ _⟩, fun _ h => h⟩
  obtain ⟨v, hv, ok⟩ := E.val i s h
  refine ⟨v, hv, ?_⟩
  cases s with
  | fz d => exact Rp.mono n.mono ok
  | ow d =>
    obtain ⟨p, e, q, o⟩ := ok
    exact ⟨p, e, (own q o).1, (own q o).2⟩
  | ln d =>
    obtain ⟨p, e, q, o⟩ := ok
    exact ⟨p, e, (own q o).1, (own q o).2⟩
  | lk d =>
    rcases ok with ok | ⟨p, e, q, l, o⟩
    · exact .inl (Rp.mono n.mono ok)
    · exact .inr ⟨p, e, (own q o).1, l, (own q o).2⟩
/-- owned things are there -/
theorem EnvOk.lof {fa : Fa} {K : PySem.W.Frag} {G0 : Hp} (E : EnvOk fa K G0 G H ρ σ) {a : Addr} (h : Lof ρ σ a) : H a ≠ none ∧ G a = none := by
  obtain ⟨i, s, h1, h2, h3⟩ := h
  obtain ⟨v, hv, ok⟩ := E.val i s h1
  rw [h3] at hv
  cases hv
  cases s with
  | fz d => cases h2
  | ow d =>
    obtain ⟨p, e, q, o⟩ := ok
    cases e
    obtain ⟨w, hw, _⟩ := o.there
    exact ⟨by rw [hw]; simp, q⟩
  | ln d =>
    obtain ⟨p, e, q, o⟩ := ok
    cases e
    obtain ⟨w, hw, _⟩ := o.there
    exact ⟨by rw [hw]; simp, q⟩
  | lk d => cases h2
theorem Res.ok {v : V} {r : Rs} (E : T.Env G H ρ σ) (h : Res T G' H' v r) (k : NewOk H v r) : ResOk T.fa T.K G' H' ρ σ v r := by
  cases r with
  | fz d => exact h
  | fr d =>
    obtain ⟨p, e, q, o⟩ := h
    exact ⟨p, e, q, fun z => (E.lof z).1 (k p e), o⟩
  | _ => exact h.elim
/-- the end of an operator -/
theorem Run.ret {W : WX} {Q : VK} {o : Option Rs} (E : T.Env G H ρ σ) (h : Run T W G H ρ σ (ofOpt o ρ) fun _ _ v _ H' => Q v H') : Ret T G H Q o := by
  cases o with
  | none => exact h.elim
  | some r => exact ⟨r, rfl, fun v G' H' n rk nk => h v G' H' (n.go E) (rk.ok E nk) nk⟩
end
end Ev
end

section
set_option Elab.async false
set_option linter.all false
set_option maxRecDepth 100000
/-! EvO: operators by values, over data. -/
namespace Ev
open PySem PySem.Spec L2

section
variable {T : Tb} {fa : Fa} {K : PySem.W.Frag} {G H : Hp} {v : V}
/-! ### what a readable value is -/
theorem Own.inv {p : Addr} {d : D} (h : Own fa K G H p d) : (∃ ds, d = .lst ds) ∨ ∃ t es, d = .dct t es := by
  rcases h with ⟨_, ds, e, _⟩ | ⟨_, _, _, e, _⟩ | ⟨_, _, _, e, _⟩
  · exact .inl ⟨ds, e⟩
  · exact .inr ⟨_, _, e⟩
  · exact .inr ⟨_, _, e⟩
theorem Rdb.flat {d : D} (h : Rdb fa K G H v d) (n1 : ∀ ds, d ≠ .lst ds) (n2 : ∀ t es, d ≠ .dct t es) : Rp fa K G v d := by
  rcases h with h | ⟨p, _, _, o⟩
  · exact h
  · rcases o.inv with ⟨ds, e⟩ | ⟨t, es, e⟩
    · exact absurd e (n1 ds)
    · exact absurd e (n2 t es)
theorem rdb_int {i : Int} (h : Rdb fa K G H v (.int i)) : v = .int i := by
  cases h.flat (fun _ z => by cases z) (fun _ _ z => by cases z); rfl
theorem rdb_bl {b : Bool} (h : Rdb fa K G H v (.bl b)) : v = .bl b := by
  cases h.flat (fun _ z => by cases z) (fun _ _ z => by cases z); rfl
theorem rdb_str {x : Str} (h : Rdb fa K G H v (.str x)) : v = .str x := by
  cases h.flat (fun _ z => by cases z) (fun _ _ z => by cases z); rfl
theorem rdb_non (h : Rdb fa K G H v .non) : v = .non := by
  cases h.flat (fun _ z => by cases z) (fun _ _ z => by cases z); rfl
theorem rdb_tup {ds : List D} (s : Sub G H) (h : Rdb fa K G H v (.tup ds)) : ∃ a vs, v = .ref a ∧ SqT K H a vs ∧ RpA fa K G vs ds := by
  cases h.flat (fun _ z => by cases z) (fun _ _ z => by cases z) with
  | tup h1 r => exact ⟨_, _, rfl, .inl (.inl (s.tup _ _ h1)), r⟩
theorem rdb_ktp {ds : List D} (h : Rdb fa K G H v (.ktp ds)) : ∃ a vs, v = .ref a ∧ SqT K H a vs ∧ RpA fa K G vs ds := by
  cases h.flat (fun _ z => by cases z) (fun _ _ z => by cases z) with
  | ktp h1 r => exact ⟨_, _, rfl, .inr h1, r⟩
theorem rdb_lst {ds : List D} (s : Sub G H) (h : Rdb fa K G H v (.lst ds)) : ∃ a vs, v = .ref a ∧ SqL K H a vs ∧ RpA fa K G vs ds := by
  rcases h with h | ⟨p, e, n, o⟩
  · cases h with
    | lst h r => exact ⟨_, _, rfl, .inl (s.rd _ _ h), r⟩
  · rcases o with ⟨vs, ds', e2, h, r⟩ | ⟨_, _, _, e2, _⟩ | ⟨_, _, _, e2, _⟩
    · cases e2
      exact ⟨p, vs, e, .inl (.inl h), r⟩
    · cases e2
    · cases e2
theorem rdb_fn {f : Nat} (h : Rdb fa K G H v (.fn f)) : ∃ a, v = .ref a ∧ fa f = some a := by
  cases h.flat (fun _ z => by cases z) (fun _ _ z => by cases z) with
  | fn h1 => exact ⟨_, rfl, h1⟩
theorem Sub.none {p : Addr} (s : Sub G H) (h : H p = none) : G p = none := by
  cases e : G p with
  | none => rfl
  | some u =>
    rcases s.rd p u (.inl e) with r | ⟨o, r⟩
    · rw [h] at r; cases r
    · rw [h] at r; cases r

/-! ### ends -/
theorem Ret.val {Q : VK} {d : D} (h : Ret T G H Q (some (.fz d))) (s : Sub G H) (r : Rp T.fa T.K G v d) : Q v H := by
  obtain ⟨_, e, q⟩ := h
  cases e
  exact q v G H (New.refl s) r trivial
theorem New.tup {p : Addr} {o : HO} (s : Sub G H) (h : H p = none) : New T G H (upd G p o) (upd H p o) :=
  ⟨s.both, Sub.new (s.none h), fun a n => by
    have ne : a ≠ p := fun z => n (by rw [z]; exact h)
    exact ⟨upd_ne ne, fun q => .inl (by rw [upd_ne ne]; exact q)⟩⟩
theorem New.own {p : Addr} {o : HO} (s : Sub G H) (h : H p = none) : New T G H G (upd H p o) :=
  ⟨s.out (s.none h), Sub.refl _, fun a n => by
    have ne : a ≠ p := fun z => n (by rw [z]; exact h)
    exact ⟨upd_ne ne, fun q => .inl q⟩⟩
theorem Ret.newTup {Q : VK} {ds : List D} {vs : List V} (h : Ret T G H Q (some (.fz (.tup ds)))) (s : Sub G H) (r : RpA T.fa T.K G vs ds) {p : Addr} (hp : H p = none) : Q (.ref p) (upd H p (.tup vs)) := by
  obtain ⟨_, e, q⟩ := h
  cases e
  have n : New T G H (upd G p (.tup vs)) (upd H p (.tup vs)) := New.tup s hp
  exact q _ _ _ n (.tup upd_same (r.mono n.mono)) trivial
theorem Ret.newLst {Q : VK} {ds : List D} {vs : List V} (h : Ret T G H Q (some (.fr (.lst ds)))) (s : Sub G H) (r : RpA T.fa T.K G vs ds) {p : Addr} (hp : H p = none) : Q (.ref p) (upd H p (.lst vs)) := by
  obtain ⟨_, e, q⟩ := h
  cases e
  exact q _ _ _ (New.own s hp) ⟨p, rfl, s.none hp, .inl ⟨vs, ds, rfl, upd_same, r⟩⟩ fun x e => by cases e; exact hp

/-! ### two operands -/
def bopOf : Bop → Operator
  | .add => .Add | .sub => .Sub | .mul => .Mult | .fdiv => .FloorDiv | .mod => .Mod | .pow => .Pow
def rBin (T : Tb) (o : Bop) : R2 := fun x y H Q => ∃ G dx dy, Sub G H ∧ Rdb T.fa T.K G H x dx ∧ Rdb T.fa T.K G H y dy ∧ Ret T G H Q (binD o dx dy)
theorem Ret.no {Q : VK} (h : Ret T G H Q none) : False := by
  obtain ⟨_, e, _⟩ := h
  cases e
variable {X : Cx}
/-- list + list, any two that can be read -/
theorem op_catL : OpR X (binaryOp .Add) (fun x y H Q => ∃ l b xs zs, x = .ref l ∧ y = .ref b ∧ SqL X.K H l xs ∧ SqL X.K H b zs ∧ xs.length + zs.length ≤ sizeLine ∧ ∀ p, H p = none → Q (.ref p) (upd H p (.lst (xs ++ zs)))) := by
  intro pins s σ H x y v u Q I rx ry h
  obtain ⟨l, b, xs, zs, rfl, rfl, hH, hB, hz, q⟩ := h
  cases rx
  cases ry
  obtain ⟨its, r, ⟨⟨c1, d1, dat1, s1⟩, n, e, hc, hd, hdat⟩, z⟩ := I.list hH
  obtain ⟨its2, r2, ⟨⟨c2, d2, dat2, s2⟩, n2, e2, hc2, hd2, hdat2⟩, z2⟩ := I.list hB
  have l1 := r.length
  have l2 := r2.length
  simp only at hc hd hdat hc2 hd2 hdat2
  subst hc hd hdat hc2 hd2 hdat2
  have hz' : its.toArray.size + its2.toArray.size ≤ sizeLine := by rw [List.size_toArray, List.size_toArray, ← l1, ← l2]; exact hz
  refine PySem.concat_meets ⟨_, e, rfl⟩ ⟨_, e2, rfl⟩ PySem.noFill_list_add PySem.seq_list_add PySem.F.slot_list_add PySem.F.entry_list_add (PySem.F.args_list_add_2 _ _) (PyProof.Rows.list_addW l b its.toArray its2.toArray n n2 none none s1 s2 hz') ⟨e, e2, ?_⟩
  have ea : its.toArray ++ its2.toArray = (its ++ its2).toArray := by simp
  rw [ea]
  refine ⟨.ref s.heap.objs.size, _, I.laid (t' := s.toks) (o := .lst (xs ++ zs)) (fun b' ob q' => Heap.get?_push_of_some _ q') (Nat.le_refl _) ?_, rfl, q _ (I.hok.fresh (Nat.le_refl _))⟩
  exact ⟨by rw [List.length_append]; exact hz, _, 0, r.append r2, Heap.get?_push_size _ rfl⟩
theorem LIM_eq : LIM = sizeLine := by rw [sizeLine_eq]; rfl
theorem small_iff {i : Int} (h : small i = true) : -(2 ^ 64) < i ∧ i < 2 ^ 64 := by
  unfold small P64 at h
  simp only [Bool.and_eq_true, decide_eq_true_eq] at h
  omega
theorem intD_ok {f : Int → Int → Option Int} {F : Value → Value → Sem Value} {C : Int → Int → Prop} {g : Int → Int → Int} (ho : OpR X F (rI C fun i j => .int (g i j))) (hf : ∀ i j k, f i j = some k → C i j ∧ k = g i j) :
    OpR X F (fun x y H Q => ∃ G dx dy, Sub G H ∧ Rdb T.fa T.K G H x dx ∧ Rdb T.fa T.K G H y dy ∧ Ret T G H Q (intD f dx dy)) := by
  intro pins s σ H x y v u Q I rx ry h
  obtain ⟨G, dx, dy, sb, hx, hy, hr⟩ := h
  unfold intD at hr
  split at hr
  · rename_i i j
    cases rdb_int hx; cases rdb_int hy
    cases e : f i j with
    | none => rw [e] at hr; exact hr.no.elim
    | some k =>
      rw [e] at hr
      obtain ⟨c, e2⟩ := hf i j k e
      subst e2
      exact ho pins s σ H _ _ v u Q I rx ry ⟨i, j, rfl, rfl, c, hr.val sb (.int _)⟩
  · exact hr.no.elim
theorem op_bin (hK : X.K = T.K) : ∀ o : Bop, OpR X (binaryOp (bopOf o)) (rBin T o) := by
  intro o
  cases o
  case add =>
    intro pins s σ H x y v u Q I rx ry h
    obtain ⟨G, dx, dy, sb, hx, hy, hr⟩ := h
    unfold binD addD at hr
    simp only at hr
    split at hr
    · cases rdb_int hx; cases rdb_int hy
      exact op_add pins s σ H _ _ v u Q I rx ry ⟨_, _, rfl, rfl, hr.val sb (.int _)⟩
    · cases rdb_str hx; cases rdb_str hy
      split at hr
      · rename_i hz
        exact op_add_str pins s σ H _ _ v u Q I rx ry ⟨_, _, rfl, rfl, by rw [← LIM_eq]; exact hz, hr.val sb (.str _)⟩
      · exact hr.no.elim
    · obtain ⟨p, vs, rfl, h1, r1⟩ := rdb_lst sb hx
      obtain ⟨q, ws, rfl, h2, r2⟩ := rdb_lst sb hy
      split at hr
      · rename_i hz
        exact op_catL pins s σ H _ _ v u Q I rx ry ⟨p, q, vs, ws, rfl, rfl, by rw [hK]; exact h1, by rw [hK]; exact h2, by rw [r1.length, r2.length, ← LIM_eq]; exact hz, fun a ha => hr.newLst sb (r1.append r2) ha⟩
      · exact hr.no.elim
    · have hx' := hx; have hy' := hy
      obtain ⟨p, vs, rfl, h1, r1⟩ := rdb_tup sb hx
      obtain ⟨q, ws, rfl, h2, r2⟩ := rdb_tup sb hy
      split at hr
      · rename_i hz
        refine op_catA pins s σ H _ _ v u Q I rx ry ⟨p, q, vs, ws, rfl, rfl, by rw [hK]; exact h1, by rw [hK]; exact h2, by rw [r1.length, r2.length, ← LIM_eq]; exact hz, fun e => ?_, fun _ e => ?_, fun _ _ a ha => hr.newTup sb (r1.append r2) ha⟩
        · subst e
          cases r1
          exact hr.val sb (hy'.flat (fun _ z => by cases z) (fun _ _ z => by cases z))
        · subst e
          cases r2
          rw [List.append_nil] at hr
          exact hr.val sb (hx'.flat (fun _ z => by cases z) (fun _ _ z => by cases z))
      · exact hr.no.elim
    · exact hr.no.elim
  case sub => exact intD_ok (C := fun _ _ => True) (g := fun i j => i - j) (fun pins s σ H x y v u Q I rx ry ⟨i, j, a, b, _, q⟩ => op_sub pins s σ H x y v u Q I rx ry ⟨i, j, a, b, q⟩) fun i j k e => ⟨trivial, (Option.some.inj e).symm⟩
  case mul =>
    refine intD_ok op_mul fun i j k e => ?_
    split at e
    · rename_i hz
      rw [Bool.or_eq_true] at hz
      exact ⟨hz.elim (fun z => .inl (small_iff z)) fun z => .inr (small_iff z), (Option.some.inj e).symm⟩
    · cases e
  case fdiv =>
    refine intD_ok op_fdiv fun i j k e => ?_
    split at e
    · rename_i hz
      simp only [Bool.and_eq_true, decide_eq_true_eq] at hz
      exact ⟨hz, (Option.some.inj e).symm⟩
    · cases e
  case mod =>
    refine intD_ok op_mod fun i j k e => ?_
    split at e
    · rename_i hz
      simp only [decide_eq_true_eq] at hz
      exact ⟨hz, (Option.some.inj e).symm⟩
    · cases e
  case pow =>
    refine intD_ok op_pow fun i j k e => ?_
    split at e
    · rename_i hz
      simp only [Bool.and_eq_true, decide_eq_true_eq] at hz
      exact ⟨⟨hz.1.1, hz.1.2, by have := hz.2; omega⟩, (Option.some.inj e).symm⟩
    · cases e

end
end Ev
end

section
set_option Elab.async false
set_option linter.all false
set_option maxRecDepth 100000
/-! EvC: comparisons, by values, over data. -/
namespace Ev
open PySem PySem.Spec L2

mutual
def py : D → PyData
  | .non => .none
  | .bl b => .bool b
  | .int i => .int i
  | .str s => .str s
  | .tup xs => .tuple (pyAll xs)
  | .ktp xs => .tuple (pyAll xs)
  | .lst xs => .list (pyAll xs)
  | .dct _ _ => .dict []
  | .fn _ => .dict []
def pyAll : List D → List PyData
  | [] => []
  | x :: xs => py x :: pyAll xs
end
mutual
theorem eqD_py : ∀ d e : D, eqD d e = PyData.eqv (py d) (py e)
  | .non, e => by cases e <;> simp [eqD, py, PyData.eqv]
  | .bl a, e => by cases e <;> simp [eqD, py, PyData.eqv]
  | .int a, e => by cases e <;> simp [eqD, py, PyData.eqv]
  | .str a, e => by
    cases e <;> simp [eqD, py, PyData.eqv]
    rw [Bool.eq_iff_iff]; simp
  | .tup xs, e => by
    cases e <;> simp [eqD, py, PyData.eqv]
    · exact eqAll_py _ _
    · exact eqAll_py _ _
  | .ktp xs, e => by
    cases e <;> simp [eqD, py, PyData.eqv]
    · exact eqAll_py _ _
    · exact eqAll_py _ _
  | .lst xs, e => by
    cases e <;> simp [eqD, py, PyData.eqv]
    exact eqAll_py _ _
  | .dct _ _, e => by cases e <;> simp [eqD, py, PyData.eqv]
  | .fn _, e => by cases e <;> simp [eqD, py, PyData.eqv]
theorem eqAll_py : ∀ xs ys : List D, eqAll xs ys = PyData.eqvAll (pyAll xs) (pyAll ys)
  | [], [] => by simp [eqAll, pyAll, PyData.eqvAll]
  | [], _ :: _ => by simp [eqAll, pyAll, PyData.eqvAll]
  | _ :: _, [] => by simp [eqAll, pyAll, PyData.eqvAll]
  | x :: xs, y :: ys => by simp only [eqAll, pyAll, PyData.eqvAll]; rw [eqD_py x y, eqAll_py xs ys]
end
mutual
theorem plain_py : ∀ (n : Nat) (d : D), plainN n d = true → (py d).canLay0 = true ∧ (py d).depth ≤ n
  | _, .non, _ => ⟨rfl, Nat.zero_le _⟩
  | _, .bl _, _ => ⟨rfl, Nat.zero_le _⟩
  | _, .int _, _ => ⟨rfl, Nat.zero_le _⟩
  | _, .str s, h => ⟨by simpa [py, PyData.canLay0, plainN, PyData.strOk] using h, by simp [py, PyData.depth]⟩
  | 0, .tup xs, h => by simp [plainN] at h
  | n + 1, .tup xs, h => by
    obtain ⟨h1, h2⟩ := plainAll_py n xs (by simpa [plainN] using h)
    exact ⟨by simpa [py, PyData.canLay0] using h1, by simp only [py, PyData.depth]; omega⟩
  | 0, .ktp xs, h => by simp [plainN] at h
  | n + 1, .ktp xs, h => by
    obtain ⟨h1, h2⟩ := plainAll_py n xs (by simpa [plainN] using h)
    exact ⟨by simpa [py, PyData.canLay0] using h1, by simp only [py, PyData.depth]; omega⟩
  | 0, .lst xs, h => by simp [plainN] at h
  | n + 1, .lst xs, h => by
    obtain ⟨h1, h2⟩ := plainAll_py n xs (by simpa [plainN] using h)
    exact ⟨by simpa [py, PyData.canLay0] using h1, by simp only [py, PyData.depth]; omega⟩
  | _, .dct _ _, h => by simp [plainN] at h
  | _, .fn _, h => by simp [plainN] at h
theorem plainAll_py : ∀ (n : Nat) (xs : List D), plainAll n xs = true → PyData.canLayAll0 (pyAll xs) = true ∧ PyData.depthAll (pyAll xs) ≤ n
  | _, [], _ => ⟨rfl, by simp [pyAll, PyData.depthAll]⟩
  | n, x :: xs, h => by
    have h' : plainN n x = true ∧ plainAll n xs = true := by simpa [plainAll] using h
    obtain ⟨h1, h2⟩ := plain_py n x h'.1
    obtain ⟨h3, h4⟩ := plainAll_py n xs h'.2
    exact ⟨by simp [pyAll, PyData.canLayAll0, h1, h3], by simp only [pyAll, PyData.depthAll]; omega⟩
end
theorem plain_shaped {d : D} (h : plain d = true) : SeqAt.shaped (py d) = true := by
  obtain ⟨h1, h2⟩ := plain_py 40 d h
  unfold SeqAt.shaped
  rw [h1, decide_eq_true (by omega)]
  rfl
section
variable {fa : Fa} {K : PySem.W.Frag} {G H : Hp}
mutual
theorem rp_dp (s : Sub G H) : ∀ {v : V} {d : D} {n : Nat}, Rp fa K G v d → plainN n d = true → Dp K H v (py d)
  | _, _, _, .non, _ => .non
  | _, _, _, .bl b, _ => .bl b
  | _, _, _, .int i, _ => .int i
  | _, _, _, .str x, _ => .str x
  | _, _, 0, .tup h r, p => by simp [plainN] at p
  | _, _, n + 1, .tup h r, p => .tup (.inl (.inl (s.tup _ _ h))) (rp_dpA s r (n := n) (by simpa [plainN] using p))
  | _, _, 0, .ktp h r, p => by simp [plainN] at p
  | _, _, n + 1, .ktp h r, p => .tup (.inr h) (rp_dpA s r (n := n) (by simpa [plainN] using p))
  | _, _, 0, .lst h r, p => by simp [plainN] at p
  | _, _, n + 1, .lst h r, p => .lst (.inl (s.rd _ _ h)) (rp_dpA s r (n := n) (by simpa [plainN] using p))
  | _, _, _, .dK h l r, p => by simp [plainN] at p
  | _, _, _, .dT h l r, p => by simp [plainN] at p
  | _, _, _, .fn h, p => by simp [plainN] at p
theorem rp_dpA (s : Sub G H) : ∀ {vs : List V} {ds : List D} {n : Nat}, RpA fa K G vs ds → plainAll n ds = true → DpAll K H vs (pyAll ds)
  | _, _, _, .nil, _ => .nil
  | _, _, n, .cons (d := d) (ds := ds) h r, p => by
    have p' : plainN n d = true ∧ plainAll n ds = true := by simpa [plainAll] using p
    exact .cons (rp_dp s h p'.1) (rp_dpA s r p'.2)
end
theorem rdb_dp (s : Sub G H) {v : V} {d : D} {n : Nat} (h : Rdb fa K G H v d) (p : plainN n d = true) : Dp K H v (py d) := by
  rcases h with h | ⟨q, rfl, hn, o⟩
  · exact rp_dp s h p
  · rcases o with ⟨vs, ds, rfl, e, r⟩ | ⟨_, _, _, rfl, _⟩ | ⟨_, _, _, rfl, _⟩
    · cases n with
      | zero => simp [plainN] at p
      | succ n => exact .lst (.inl (.inl e)) (rp_dpA s r (n := n) (by simpa [plainN] using p))
    · simp [plainN] at p
    · simp [plainN] at p
end
/-! ### keys -/
theorem keyEq_kD (j k : Key) : keyEq (kD j) (kD k) = decide (j = k) := by
  unfold keyEq
  cases j <;> cases k <;> simp [kD, eqD] <;> rfl
theorem eqAll_kD : ∀ j k : List Key, eqAll (j.map kD) (k.map kD) = decide (j = k)
  | [], [] => by simp [eqAll]
  | [], _ :: _ => by simp [eqAll]
  | _ :: _, [] => by simp [eqAll]
  | x :: xs, y :: ys => by
    have h1 : eqD (kD x) (kD y) = decide (x = y) := keyEq_kD x y
    simp only [List.map_cons, eqAll, h1, eqAll_kD xs ys]
    rw [Bool.eq_iff_iff]
    simp
theorem keyEq_kT (j k : List Key) : keyEq (.tup (j.map kD)) (.tup (k.map kD)) = decide (j = k) := by
  unfold keyEq
  simp only [eqD, eqAll_kD]
theorem isKey0_kD {d : D} (h : isKey0 d = true) : ∃ k : Key, d = kD k := by
  cases d with
  | int i => exact ⟨.inl i, rfl⟩
  | str s => exact ⟨.inr s, rfl⟩
  | _ => simp [isKey0] at h
theorem isKey0_all : ∀ xs : List D, xs.all isKey0 = true → ∃ ks : List Key, xs = ks.map kD
  | [], _ => ⟨[], rfl⟩
  | x :: xs, h => by
    have h' : isKey0 x = true ∧ xs.all isKey0 = true := by simpa using h
    obtain ⟨k, rfl⟩ := isKey0_kD h'.1
    obtain ⟨ks, rfl⟩ := isKey0_all xs h'.2
    exact ⟨k :: ks, rfl⟩
theorem isKeyT_kD {d : D} (h : isKeyT d = true) : ∃ ks : List Key, d = .tup (ks.map kD) := by
  cases d with
  | tup xs =>
    obtain ⟨ks, rfl⟩ := isKey0_all xs h
    exact ⟨ks, rfl⟩
  | _ => simp [isKeyT] at h

section
variable {T : Tb} {fa : Fa} {K : PySem.W.Frag} {G H : Hp}
theorem rpA_keys : ∀ (ks : List Key) {xs : List V}, RpA fa K G xs (ks.map kD) → xs = ks.map kV
  | [], _, .nil => rfl
  | .inl i :: ks, _, .cons (.int _) r => by rw [rpA_keys ks r]; rfl
  | .inr x :: ks, _, .cons (.str _) r => by rw [rpA_keys ks r]; rfl
/-- what a dict holds at a key -/
theorem find_zip {κ : Type} [DecidableEq κ] (f : κ → D) (hf : ∀ j k, keyEq (f j) (f k) = decide (j = k)) (k : κ) : ∀ {ks : List κ} {vs : List V} {ds : List D}, ks.length = vs.length → RpA fa K G vs ds →
    (∃ v d, valV (ks.zip vs) k = some v ∧ dget (f k) ((ks.map f).zip ds) = some d ∧ Rp fa K G v d) ∨ (valV (ks.zip vs) k = none ∧ dget (f k) ((ks.map f).zip ds) = none)
  | [], _, _, _, _ => .inr ⟨rfl, rfl⟩
  | j :: ks, [], _, l, _ => by simp at l
  | j :: ks, v :: vs, _, l, .cons (d := d) (ds := ds) h r => by
    have ih := find_zip f hf k (ks := ks) (vs := vs) (ds := ds) (by simpa using l) r
    show (∃ v' d', valV ((j, v) :: ks.zip vs) k = some v' ∧ dget (f k) ((f j, d) :: (ks.map f).zip ds) = some d' ∧ _) ∨ (valV ((j, v) :: ks.zip vs) k = none ∧ dget (f k) ((f j, d) :: (ks.map f).zip ds) = none)
    unfold dget valV
    rw [hf, List.find?_cons]
    by_cases e : j = k
    · simp only [e, decide_true]
      exact .inl ⟨v, d, rfl, rfl, h⟩
    · simp only [e, decide_false]
      exact ih
/-- a look into a dict that can be read -/
theorem rdb_dget (s : Sub G H) {t : Bool} {es : List (D × D)} {v w : V} {k : D} (h : Rdb fa K G H v (.dct t es)) (hk : Rdb fa K G H w k) (f : keyFits t k = true) :
    ∃ a, v = .ref a ∧ ((∃ x d, DGet H a w (some x) ∧ dget k es = some d ∧ Rp fa K G x d) ∨ (DGet H a w none ∧ dget k es = none)) := by
  cases t with
  | false =>
    obtain ⟨k', rfl⟩ := isKey0_kD (show isKey0 k = true from f)
    have ew : w = kV k' := by
      cases k' with
      | inl i => exact rdb_int hk
      | inr x => exact rdb_str hk
    have go : ∀ {a : Addr} {ks : List Key} {xs : List V} {ds : List D}, Rd H a (.dK (ks.zip xs)) → ks.length = xs.length → RpA fa K G xs ds → es = (ks.map kD).zip ds →
        ((∃ x d, DGet H a w (some x) ∧ dget (kD k') es = some d ∧ Rp fa K G x d) ∨ (DGet H a w none ∧ dget (kD k') es = none)) := fun {a ks xs ds} hd l r e => by
      subst e
      rcases find_zip kD keyEq_kD k' l r with ⟨x, d, h1, h2, h3⟩ | ⟨h1, h2⟩
      · exact .inl ⟨x, d, .inl ⟨_, k', hd, ew, h1.symm⟩, h2, h3⟩
      · exact .inr ⟨.inl ⟨_, k', hd, ew, h1.symm⟩, h2⟩
    rcases h with h | ⟨p, rfl, hn, o⟩
    · cases h with
      | dK hd l r => exact ⟨_, rfl, go (s.rd _ _ hd) l r rfl⟩
    · rcases o with ⟨_, _, e, _⟩ | ⟨ks, vs, ds, e, hd, l, r⟩ | ⟨_, _, _, e, _⟩
      · cases e
      · injection e with e1 e2
        exact ⟨p, rfl, go (.inl hd) l r e2⟩
      · cases e
  | true =>
    obtain ⟨k', rfl⟩ := isKeyT_kD (show isKeyT k = true from f)
    obtain ⟨b, ew, hb⟩ : ∃ b, w = .ref b ∧ H b = some (.tup (k'.map kV)) := by
      cases hk.flat (fun _ z => by cases z) (fun _ _ z => by cases z) with
      | @tup b xs ds h1 r1 =>
        refine ⟨b, rfl, ?_⟩
        rw [← rpA_keys k' r1]
        exact s.tup _ _ h1
    have go : ∀ {a : Addr} {ks : List (List Key)} {xs : List V} {ds : List D}, Rd H a (.dT (ks.zip xs)) → ks.length = xs.length → RpA fa K G xs ds → es = (ks.map fun k => D.tup (k.map kD)).zip ds →
        ((∃ x d, DGet H a w (some x) ∧ dget (.tup (k'.map kD)) es = some d ∧ Rp fa K G x d) ∨ (DGet H a w none ∧ dget (.tup (k'.map kD)) es = none)) := fun {a ks xs ds} hd l r e => by
      subst e
      rcases find_zip (fun k => D.tup (k.map kD)) keyEq_kT k' l r with ⟨x, d, h1, h2, h3⟩ | ⟨h1, h2⟩
      · exact .inl ⟨x, d, .inr ⟨_, k', b, hd, ew, hb, h1.symm⟩, h2, h3⟩
      · exact .inr ⟨.inr ⟨_, k', b, hd, ew, hb, h1.symm⟩, h2⟩
    rcases h with h | ⟨p, rfl, hn, o⟩
    · cases h with
      | dT hd l r => exact ⟨_, rfl, go (s.rd _ _ hd) l r rfl⟩
    · rcases o with ⟨_, _, e, _⟩ | ⟨_, _, _, e, _⟩ | ⟨ks, vs, ds, e, hd, l, r⟩
      · cases e
      · cases e
      · injection e with e1 e2
        exact ⟨p, rfl, go (.inl hd) l r e2⟩
end

/-! ### comparisons -/
def copOf : Cop → CmpOp
  | .eq => .Eq | .ne => .NotEq | .lt => .Lt | .le => .LtE | .gt => .Gt | .ge => .GtE | .isin => .In | .notin => .NotIn | .is => .Is | .isnot => .IsNot
def rCmp (T : Tb) (o : Cop) : R2 := fun x y H Q => ∃ G dx dy c, Sub G H ∧ Rdb T.fa T.K G H x dx ∧ Rdb T.fa T.K G H y dy ∧ cmpD o dx dy = some c ∧ Q (.bl c) H
theorem any_py (x : D) (hx : True) : ∀ ys : List D, (pyAll ys).any (fun y => PyData.eqv y (py x)) = isIn x ys
  | [] => rfl
  | y :: ys => by
    unfold isIn
    simp only [pyAll, List.any_cons]
    rw [← eqD_py y x]
    congr 1
    exact any_py x hx ys
theorem plainAll_of_lst {ys : List D} (h : plain (.lst ys) = true) : plainAll 39 ys = true := by simpa [plain, plainN] using h
theorem plainAll_of_ktp {ys : List D} (h : plain (.ktp ys) = true) : plainAll 39 ys = true := by simpa [plain, plainN] using h
theorem plainAll_of_tup {ys : List D} (h : plain (.tup ys) = true) : plainAll 39 ys = true := by simpa [plain, plainN] using h
theorem dec_bb (a b : Bool) : decide (a = b) = (a == b) := by cases a <;> cases b <;> rfl
section
variable {X : Cx} {T : Tb}
theorem Rdb.notNone {fa : Fa} {K : PySem.W.Frag} {G H : Hp} {v : V} {d : D} (h : Rdb fa K G H v d) (n : d ≠ .non) : decide (v = .non) = false := by
  rcases h with h | ⟨p, rfl, _⟩
  · cases h <;> first | exact absurd rfl n | rfl
  · rfl
theorem op_cmp (hK : X.K = T.K) (hu : X.A.units + 66 < cLine) : ∀ o : Cop, OpR X (compareOp (copOf o)) (rCmp T o) := by
  intro o pins s σ H x y v u Q I rx ry h
  obtain ⟨G, dx, dy, c, sb, hx, hy, hc, q⟩ := h
  have deep : ∀ {d e : D} {v : V}, plain d = true → Rdb T.fa T.K G H v d → Dp X.K H v (py d) := fun {d e v} p h => by rw [hK]; exact rdb_dp sb h (n := 40) p
  cases o
  case eq =>
    simp only [cmpD] at hc
    split at hc
    · cases rdb_str hx; cases rdb_str hy
      refine op_eq pins s σ H _ _ v u Q I rx ry ⟨rfl, ?_⟩
      cases hc
      rename_i a b
      have e : decide (V.str a = V.str b) = decide (a = b) := by simp
      rw [e]; exact q
    · split at hc
      · rename_i hp
        rw [Bool.and_eq_true] at hp
        cases hc
        refine op_eqD (by omega) pins s σ H _ _ v u Q I rx ry ⟨py dx, py dy, deep (e := dx) hp.1 hx, deep (e := dx) hp.2 hy, plain_shaped hp.1, plain_shaped hp.2, ?_⟩
        rw [← eqD_py]; exact q
      · cases hc
  case ne =>
    simp only [cmpD] at hc
    split at hc
    · cases rdb_str hx; cases rdb_str hy
      refine op_ne pins s σ H _ _ v u Q I rx ry ⟨rfl, ?_⟩
      cases hc
      rename_i a b
      have e : decide (V.str a = V.str b) = decide (a = b) := by simp
      rw [e]; exact q
    · split at hc
      · rename_i hp
        rw [Bool.and_eq_true] at hp
        cases hc
        refine op_neD (by omega) pins s σ H _ _ v u Q I rx ry ⟨py dx, py dy, deep (e := dx) hp.1 hx, deep (e := dx) hp.2 hy, plain_shaped hp.1, plain_shaped hp.2, ?_⟩
        rw [← eqD_py]; exact q
      · cases hc
  case lt =>
    simp only [cmpD] at hc
    split at hc
    · cases rdb_int hx; cases rdb_int hy
      cases hc
      exact op_lt pins s σ H _ _ v u Q I rx ry ⟨_, _, rfl, rfl, q⟩
    · cases hc
  case le =>
    simp only [cmpD] at hc
    split at hc
    · cases rdb_int hx; cases rdb_int hy
      cases hc
      exact op_le pins s σ H _ _ v u Q I rx ry ⟨_, _, rfl, rfl, q⟩
    · cases hc
  case gt =>
    simp only [cmpD] at hc
    split at hc
    · cases rdb_int hx; cases rdb_int hy
      cases hc
      exact op_gt pins s σ H _ _ v u Q I rx ry ⟨_, _, rfl, rfl, q⟩
    · cases hc
  case ge =>
    simp only [cmpD] at hc
    split at hc
    · cases rdb_int hx; cases rdb_int hy
      cases hc
      exact op_ge pins s σ H _ _ v u Q I rx ry ⟨_, _, rfl, rfl, q⟩
    · cases hc
  case isin =>
    simp only [cmpD] at hc
    split at hc
    · rename_i ys
      split at hc
      · rename_i hp
        rw [Bool.and_eq_true] at hp
        cases hc
        obtain ⟨as, r1⟩ := Dp.reads I (py (.lst ys)) y u (deep (e := dx) hp.2 hy) ry
        obtain ⟨bs, r2⟩ := Dp.reads I (py dx) x v (deep (e := dx) hp.1 hx) rx
        obtain ⟨c1, c2⟩ := plainAll_py _ _ (plainAll_of_lst hp.2)
        obtain ⟨c3, c4⟩ := plain_py 40 dx hp.1
        exact SeqAt.in_list_reads r1 r2 c1 c3 (by have := Nat.min_le_right (PyData.depthAll (pyAll ys)) (py dx).depth; omega) ⟨.bl _, H, I, rfl, by rw [any_py dx trivial]; exact q⟩
      · cases hc
    · rename_i ys
      split at hc
      · rename_i hp
        rw [Bool.and_eq_true] at hp
        cases hc
        obtain ⟨as, r1⟩ := Dp.reads I (py (.tup ys)) y u (deep (e := dx) hp.2 hy) ry
        obtain ⟨bs, r2⟩ := Dp.reads I (py dx) x v (deep (e := dx) hp.1 hx) rx
        obtain ⟨c1, c2⟩ := plainAll_py _ _ (plainAll_of_tup hp.2)
        obtain ⟨c3, c4⟩ := plain_py 40 dx hp.1
        exact SeqAt.in_tuple_reads r1 r2 c1 c3 (by have := Nat.min_le_right (PyData.depthAll (pyAll ys)) (py dx).depth; omega) ⟨.bl _, H, I, rfl, by rw [any_py dx trivial]; exact q⟩
      · cases hc
    · rename_i ys
      split at hc
      · rename_i hp
        rw [Bool.and_eq_true] at hp
        cases hc
        obtain ⟨as, r1⟩ := Dp.reads I (py (.ktp ys)) y u (deep (e := dx) hp.2 hy) ry
        obtain ⟨bs, r2⟩ := Dp.reads I (py dx) x v (deep (e := dx) hp.1 hx) rx
        obtain ⟨c1, c2⟩ := plainAll_py _ _ (plainAll_of_ktp hp.2)
        obtain ⟨c3, c4⟩ := plain_py 40 dx hp.1
        exact SeqAt.in_tuple_reads r1 r2 c1 c3 (by have := Nat.min_le_right (PyData.depthAll (pyAll ys)) (py dx).depth; omega) ⟨.bl _, H, I, rfl, by rw [any_py dx trivial]; exact q⟩
      · cases hc
    · split at hc
      · rename_i hf
        cases hc
        obtain ⟨a, rfl, h⟩ := rdb_dget sb hy hx hf
        cases ry
        rcases h with ⟨z, d, g, e, _⟩ | ⟨g, e⟩
        · exact d_in (by omega) I g rx fun s' I' => ⟨.bl _, H, I', rfl, by rw [e] at q; exact q⟩
        · exact d_in (by omega) I g rx fun s' I' => ⟨.bl _, H, I', rfl, by rw [e] at q; exact q⟩
      · cases hc
    · cases hc
  case notin =>
    simp only [cmpD] at hc
    split at hc
    · rename_i ys
      split at hc
      · rename_i hp
        rw [Bool.and_eq_true] at hp
        cases hc
        obtain ⟨as, r1⟩ := Dp.reads I (py (.lst ys)) y u (deep (e := dx) hp.2 hy) ry
        obtain ⟨bs, r2⟩ := Dp.reads I (py dx) x v (deep (e := dx) hp.1 hx) rx
        obtain ⟨c1, c2⟩ := plainAll_py _ _ (plainAll_of_lst hp.2)
        obtain ⟨c3, c4⟩ := plain_py 40 dx hp.1
        exact SeqAt.notIn_list_reads r1 r2 c1 c3 (by have := Nat.min_le_right (PyData.depthAll (pyAll ys)) (py dx).depth; omega) ⟨.bl _, H, I, rfl, by rw [any_py dx trivial]; exact q⟩
      · cases hc
    · rename_i ys
      split at hc
      · rename_i hp
        rw [Bool.and_eq_true] at hp
        cases hc
        obtain ⟨as, r1⟩ := Dp.reads I (py (.tup ys)) y u (deep (e := dx) hp.2 hy) ry
        obtain ⟨bs, r2⟩ := Dp.reads I (py dx) x v (deep (e := dx) hp.1 hx) rx
        obtain ⟨c1, c2⟩ := plainAll_py _ _ (plainAll_of_tup hp.2)
        obtain ⟨c3, c4⟩ := plain_py 40 dx hp.1
        exact SeqAt.notIn_tuple_reads r1 r2 c1 c3 (by have := Nat.min_le_right (PyData.depthAll (pyAll ys)) (py dx).depth; omega) ⟨.bl _, H, I, rfl, by rw [any_py dx trivial]; exact q⟩
      · cases hc
    · rename_i ys
      split at hc
      · rename_i hp
        rw [Bool.and_eq_true] at hp
        cases hc
        obtain ⟨as, r1⟩ := Dp.reads I (py (.ktp ys)) y u (deep (e := dx) hp.2 hy) ry
        obtain ⟨bs, r2⟩ := Dp.reads I (py dx) x v (deep (e := dx) hp.1 hx) rx
        obtain ⟨c1, c2⟩ := plainAll_py _ _ (plainAll_of_ktp hp.2)
        obtain ⟨c3, c4⟩ := plain_py 40 dx hp.1
        exact SeqAt.notIn_tuple_reads r1 r2 c1 c3 (by have := Nat.min_le_right (PyData.depthAll (pyAll ys)) (py dx).depth; omega) ⟨.bl _, H, I, rfl, by rw [any_py dx trivial]; exact q⟩
      · cases hc
    · split at hc
      · rename_i hf
        cases hc
        obtain ⟨a, rfl, h⟩ := rdb_dget sb hy hx hf
        cases ry
        rcases h with ⟨z, d, g, e, _⟩ | ⟨g, e⟩
        · exact d_notIn (by omega) I g rx fun s' I' => ⟨.bl _, H, I', rfl, by rw [e] at q; exact q⟩
        · exact d_notIn (by omega) I g rx fun s' I' => ⟨.bl _, H, I', rfl, by rw [e] at q; exact q⟩
      · cases hc
    · cases hc
  case is =>
    simp only [cmpD] at hc
    split at hc
    · cases rdb_non hx; cases rdb_non hy
      cases hc
      exact op_isN pins s σ H _ _ v u Q I rx ry ⟨rfl, q⟩
    · rename_i n
      cases rdb_non hy
      cases hc
      exact op_isN pins s σ H _ _ v u Q I rx ry ⟨rfl, by rw [hx.notNone (fun z => n z)]; exact q⟩
    · cases rdb_bl hx; cases rdb_bl hy
      cases hc
      rename_i a b
      exact op_is_bl pins s σ H _ _ v u Q I rx ry ⟨a, b, rfl, rfl, by rw [dec_bb]; exact q⟩
    · cases hc
  case isnot =>
    simp only [cmpD] at hc
    split at hc
    · cases rdb_non hx; cases rdb_non hy
      cases hc
      exact op_notN pins s σ H _ _ v u Q I rx ry ⟨rfl, q⟩
    · rename_i n
      cases rdb_non hy
      cases hc
      exact op_notN pins s σ H _ _ v u Q I rx ry ⟨rfl, by rw [hx.notNone (fun z => n z)]; exact q⟩
    · cases rdb_bl hx; cases rdb_bl hy
      cases hc
      rename_i a b
      exact op_isnot_bl pins s σ H _ _ v u Q I rx ry ⟨a, b, rfl, rfl, by rw [dec_bb]; exact q⟩
    · cases hc
end
end Ev
end

section
set_option Elab.async false
set_option linter.all false
set_option maxRecDepth 100000
/-! EvS: sorting of data. -/
namespace Ev
open PySem PySem.Spec L2

mutual
theorem alike_py : ∀ d e : D, alikeD d e = true → PySem.W.alike (py d) (py e) = true
  | .non, e, h => by cases e <;> simp [alikeD] at h; rfl
  | .bl _, e, h => by cases e <;> simp [alikeD] at h; rfl
  | .int _, e, h => by cases e <;> simp [alikeD] at h; rfl
  | .str _, e, h => by cases e <;> simp [alikeD] at h; rfl
  | .tup xs, e, h => by
    cases e <;> simp [alikeD] at h
    all_goals (simp only [py, PySem.W.alike]; exact alikeL_py _ _ h)
  | .ktp _, e, h => by cases e <;> simp [alikeD] at h
  | .lst xs, e, h => by
    cases e <;> simp [alikeD] at h
    simp only [py, PySem.W.alike]
    exact alikeL_py _ _ h
  | .dct _ _, e, h => by cases e <;> simp [alikeD] at h
  | .fn _, e, h => by cases e <;> simp [alikeD] at h
theorem alikeL_py : ∀ xs ys : List D, alikeL xs ys = true → PySem.W.alikeAll (pyAll xs) (pyAll ys) = true
  | [], ys, _ => by simp [pyAll, PySem.W.alikeAll]
  | _ :: _, [], _ => by simp [pyAll, PySem.W.alikeAll]
  | x :: xs, y :: ys, h => by
    have h' : alikeD x y = true ∧ alikeL xs ys = true := by simpa [alikeL] using h
    simp only [pyAll, PySem.W.alikeAll, alike_py x y h'.1, alikeL_py xs ys h'.2, Bool.and_self]
end
theorem ltNats_lex : ∀ a b : List Nat, ltNats a b = decide (a < b)
  | [], [] => by simp [ltNats]
  | [], _ :: _ => by simp [ltNats]
  | _ :: _, [] => by simp [ltNats]
  | a :: as, b :: bs => by
    unfold ltNats
    rw [ltNats_lex as bs]
    by_cases h : a < b
    · simp [h, List.cons_lt_cons_iff]
    · by_cases h2 : b < a
      · have : ¬ (a = b) := by omega
        simp [h, h2, List.cons_lt_cons_iff, this]
      · have : a = b := by omega
        subst this
        simp [List.cons_lt_cons_iff]
mutual
theorem ltD_py : ∀ d e : D, alikeD d e = true → ltD d e = PySem.W.dataLt (py d) (py e)
  | .non, e, h => by cases e <;> simp [alikeD] at h; rfl
  | .bl a, e, h => by cases e <;> simp [alikeD] at h; rename_i b; cases a <;> cases b <;> rfl
  | .int i, e, h => by
    cases e <;> simp [alikeD] at h
    rename_i j
    show decide (i < j) = PyProof.Rows.lexLt PyProof.Rows.itemOrd [.inl i] [.inl j]
    rw [PySem.W.lex_one]
    rfl
  | .str x, e, h => by
    cases e <;> simp [alikeD] at h
    rename_i y
    show ltNats x.cps.toList y.cps.toList = PyProof.Rows.lexLt PyProof.Rows.itemOrd [.inr x.cps.toList] [.inr y.cps.toList]
    rw [PySem.W.lex_one, ltNats_lex]
    rfl
  | .tup xs, e, h => by
    cases e <;> simp [alikeD] at h
    all_goals (simp only [ltD, py, PySem.W.dataLt, PySem.W.keyToks]; exact ltL_py _ _ h)
  | .ktp _, e, h => by cases e <;> simp [alikeD] at h
  | .lst xs, e, h => by
    cases e <;> simp [alikeD] at h
    simp only [ltD, py, PySem.W.dataLt, PySem.W.keyToks]
    exact ltL_py _ _ h
  | .dct _ _, e, h => by cases e <;> simp [alikeD] at h
  | .fn _, e, h => by cases e <;> simp [alikeD] at h
theorem ltL_py : ∀ xs ys : List D, alikeL xs ys = true → ltL xs ys = PyProof.Rows.lexLt PyProof.Rows.itemOrd (PySem.W.keyToksAll (pyAll xs)) (PySem.W.keyToksAll (pyAll ys))
  | [], [], _ => by simp [ltL, pyAll, PySem.W.keyToksAll]; rfl
  | [], y :: ys, _ => by simp only [ltL, pyAll, PySem.W.keyToksAll]; rfl
  | x :: xs, [], _ => by simp only [ltL, pyAll, PySem.W.keyToksAll]; rfl
  | x :: xs, y :: ys, h => by
    have h' : alikeD x y = true ∧ alikeL xs ys = true := by simpa [alikeL] using h
    simp only [pyAll]
    rw [PySem.W.dataLt_cons (alike_py x y h'.1), ← eqD_py x y, ← ltD_py x y h'.1, ← ltL_py xs ys h'.2]
    simp [ltL]
end
/-- the order of data -/
def leP : D → D → Bool := PySem.W.dataLe false py
theorem leP_total : PySem.W.TotalLe leP := PySem.W.sortLe_total (PyProof.Rows.listOrd PyProof.Rows.itemOrd) false fun b => PySem.W.keyToks (py b)
theorem leP_eq (d e : D) : leP d e = !PySem.W.dataLt (py e) (py d) := rfl
/-- insertion by any order -/
def insP (x : D) : List D → List D
  | [] => [x]
  | y :: ys => if leP x y = true then x :: y :: ys else y :: insP x ys
def sortP : List D → List D
  | [] => []
  | x :: xs => insP x (sortP xs)
theorem insP_mem {x z : D} : ∀ {ys : List D}, z ∈ insP x ys → z = x ∨ z ∈ ys
  | [], h => by simpa [insP] using h
  | y :: ys, h => by
    unfold insP at h
    split at h
    · simpa using h
    · rcases List.mem_cons.mp h with h | h
      · exact .inr (by simp [h])
      · exact (insP_mem h).imp id fun z => List.mem_cons_of_mem _ z
theorem sortP_mem {z : D} : ∀ {ys : List D}, z ∈ sortP ys → z ∈ ys
  | [], h => h
  | y :: ys, h => by
    rcases insP_mem h with h | h
    · simp [h]
    · exact List.mem_cons_of_mem _ (sortP_mem h)
theorem insP_pw {x : D} : ∀ {ys : List D}, ys.Pairwise (fun a b => leP a b = true) → (insP x ys).Pairwise (fun a b => leP a b = true)
  | [], _ => by simp [insP]
  | y :: ys, h => by
    unfold insP
    split
    · rename_i hx
      refine List.pairwise_cons.mpr ⟨fun z hz => ?_, h⟩
      rcases List.mem_cons.mp hz with rfl | hz
      · exact hx
      · exact leP_total.trans _ _ _ hx ((List.pairwise_cons.mp h).1 z hz)
    · rename_i hx
      obtain ⟨h1, h2⟩ := List.pairwise_cons.mp h
      refine List.pairwise_cons.mpr ⟨fun z hz => ?_, insP_pw h2⟩
      rcases insP_mem hz with rfl | hz
      · exact (leP_total.total _ _).resolve_left hx
      · exact h1 z hz
theorem sortP_pw : ∀ ys : List D, (sortP ys).Pairwise (fun a b => leP a b = true)
  | [] => .nil
  | y :: ys => insP_pw (sortP_pw ys)
theorem insP_filter (c x : D) : ∀ ys : List D, (insP x ys).filter (PySem.W.sameRank leP c) = if PySem.W.sameRank leP c x = true then x :: ys.filter (PySem.W.sameRank leP c) else ys.filter (PySem.W.sameRank leP c)
  | [] => by simp [insP, List.filter_cons]
  | y :: ys => by
    unfold insP
    split
    · simp [List.filter_cons]
    · rename_i hx
      rw [List.filter_cons, insP_filter c x ys, List.filter_cons]
      by_cases h1 : PySem.W.sameRank leP c y = true
      · by_cases h2 : PySem.W.sameRank leP c x = true
        · exfalso
          unfold PySem.W.sameRank at h1 h2
          rw [Bool.and_eq_true] at h1 h2
          exact hx (leP_total.trans _ _ _ h2.2 h1.1)
        · simp [h1, h2]
      · by_cases h2 : PySem.W.sameRank leP c x = true <;> simp [h1, h2]
theorem sortP_filter (c : D) : ∀ ys : List D, (sortP ys).filter (PySem.W.sameRank leP c) = ys.filter (PySem.W.sameRank leP c)
  | [] => rfl
  | y :: ys => by
    unfold sortP
    rw [insP_filter, sortP_filter c ys, List.filter_cons]
theorem sortP_merge (l : List D) : sortP l = l.mergeSort leP := PySem.W.sort_unique leP_total (sortP_pw l) fun c => sortP_filter c l
theorem ins_insP (x : D) : ∀ ys : List D, (∀ y ∈ ys, alikeD y x = true) → ins x ys = insP x ys
  | [], _ => rfl
  | y :: ys, h => by
    unfold ins insP
    rw [leP_eq, ← ltD_py y x (h y (by simp)), ins_insP x ys fun z hz => h z (List.mem_cons_of_mem _ hz)]
    cases ltD y x <;> rfl
theorem isort_sortP : ∀ l : List D, (∀ x ∈ l, ∀ y ∈ l, alikeD x y = true) → isort l = sortP l
  | [], _ => rfl
  | x :: xs, h => by
    unfold isort sortP
    rw [isort_sortP xs fun a ha b hb => h a (List.mem_cons_of_mem _ ha) b (List.mem_cons_of_mem _ hb)]
    exact ins_insP x _ fun y hy => h y (List.mem_cons_of_mem _ (sortP_mem hy)) x (by simp)
theorem allAlike_iff {l : List D} (h : allAlike l = true) : ∀ x ∈ l, ∀ y ∈ l, alikeD x y = true := fun x hx y hy => by
  unfold allAlike at h
  rw [List.all_eq_true] at h
  have := h x hx
  rw [List.all_eq_true] at this
  exact this y hy
theorem isort_merge {l : List D} (h : allAlike l = true) : isort l = l.mergeSort leP := (isort_sortP l (allAlike_iff h)).trans (sortP_merge l)
/-- pairs of a value and of what it stands for, sorted by the second -/
theorem sort_pairs (l : List (V × D)) (h : allAlike (l.map (·.2)) = true) : (l.mergeSort (PySem.W.dataLe false fun b => py b.2)).map (·.2) = isort (l.map (·.2)) := by
  rw [isort_merge h]
  exact PySem.W.sort_maps (fun b : V × D => b.2) fun a _ b _ => rfl
theorem sortable_py {l : List D} (h : sortable l = true) : PySem.W.Sortable (pyAll l) := by
  have mem : ∀ {l : List D} {d : PyData}, d ∈ pyAll l → ∃ x ∈ l, d = py x := fun {l} => by
    induction l with
    | nil => intro d hd; simp [pyAll] at hd
    | cons x xs ih =>
      intro d hd
      rcases List.mem_cons.mp (show d ∈ py x :: pyAll xs from hd) with e | hd
      · exact ⟨x, by simp, e⟩
      · obtain ⟨y, hy, e⟩ := ih hd
        exact ⟨y, List.mem_cons_of_mem _ hy, e⟩
  unfold sortable at h
  rw [Bool.or_eq_true] at h
  rcases h with h | h
  · refine .inl fun d hd => ?_
    obtain ⟨x, hx, rfl⟩ := mem hd
    have q := (List.all_eq_true.mp h) x hx
    cases x with
    | tup ys =>
      cases ys with
      | nil => cases q
      | cons y ys => exact ⟨_, _, rfl⟩
    | _ => cases q
  · refine .inr fun d hd => ?_
    obtain ⟨x, hx, rfl⟩ := mem hd
    have q := (List.all_eq_true.mp h) x hx
    cases x with
    | tup ys => cases q
    | ktp ys => cases q
    | non => cases q
    | _ => exact ⟨by simp [py], by simp [py]⟩
theorem pyAll_map : ∀ l : List (V × D), pyAll (l.map (·.2)) = l.map fun b => py b.2
  | [] => rfl
  | _ :: l => by simp only [List.map_cons, pyAll, pyAll_map l]
theorem allAlike_py {l : List D} (h : allAlike l = true) : PySem.W.AllAlike (pyAll l) := by
  have mem : ∀ {l : List D} {d : PyData}, d ∈ pyAll l → ∃ x ∈ l, d = py x := fun {l} => by
    induction l with
    | nil => intro d hd; simp [pyAll] at hd
    | cons x xs ih =>
      intro d hd
      rcases List.mem_cons.mp (show d ∈ py x :: pyAll xs from hd) with e | hd
      · exact ⟨x, by simp, e⟩
      · obtain ⟨y, hy, e⟩ := ih hd
        exact ⟨y, List.mem_cons_of_mem _ hy, e⟩
  intro d hd e he
  obtain ⟨x, hx, rfl⟩ := mem hd
  obtain ⟨y, hy, rfl⟩ := mem he
  exact alike_py x y (allAlike_iff h x hx y hy)
end Ev
end

section
set_option Elab.async false
set_option linter.all false
set_option maxRecDepth 100000
/-! EvB: truth, items, slices, built-ins: by values, over data. -/
namespace Ev
open PySem PySem.Spec L2

section
variable {X : Cx} {T : Tb} {fa : Fa} {K : PySem.W.Frag} {G H : Hp} {v : V}
theorem RpA.isEmpty {vs : List V} {ds : List D} (r : RpA fa K G vs ds) : vs.isEmpty = ds.isEmpty := by cases r <;> rfl
/-! ### truth -/
def rTru (T : Tb) : V → Hp → (Bool → Hp → Prop) → Prop := fun x H Q => ∃ G d b, Sub G H ∧ Rdb T.fa T.K G H x d ∧ truD d = some b ∧ Q b H
theorem size_ne (n : Nat) : ((n : Int) != 0) = (n != 0) := by
  cases n with
  | zero => rfl
  | succ n =>
    have h1 : ((n + 1 : Nat) : Int) ≠ 0 := by omega
    rw [bne_iff_ne.mpr h1, bne_iff_ne.mpr (by omega : n + 1 ≠ 0)]
theorem tru_ev (hK : X.K = T.K) : TruR X (rTru T) := by
  intro pins s σ H x v Q I rx h
  obtain ⟨G, d, b, sb, hd, hb, q⟩ := h
  refine tru_ok pins s σ H x v Q I rx ⟨b, ?_, q⟩
  cases d with
  | non => cases rdb_non hd; cases hb; rfl
  | bl c => cases rdb_bl hd; cases hb; rfl
  | int i => cases rdb_int hd; cases hb; rfl
  | str z =>
    cases rdb_str hd
    simp only [truD] at hb
    split at hb
    · rename_i hz
      cases hb
      exact ⟨by rw [← LIM_eq]; exact hz, (size_ne _).symm⟩
    · cases hb
  | tup ds =>
    obtain ⟨p, vs, rfl, h1, r⟩ := rdb_tup sb hd
    cases hb
    exact .inr (.inl ⟨vs, by rw [hK]; exact h1, by rw [r.isEmpty]⟩)
  | ktp ds =>
    obtain ⟨p, vs, rfl, h1, r⟩ := rdb_ktp (H := H) hd
    cases hb
    exact .inr (.inl ⟨vs, by rw [hK]; exact h1, by rw [r.isEmpty]⟩)
  | lst ds =>
    obtain ⟨p, vs, rfl, h1, r⟩ := rdb_lst sb hd
    cases hb
    exact .inl ⟨vs, by rw [hK]; exact h1, by rw [r.isEmpty]⟩
  | dct t es => cases hb
  | fn f => cases hb

/-! ### items -/
theorem ixD_eq (n : Nat) (i : Int) : ixD n i = ixN n i := by
  unfold ixD ixN
  by_cases h : i < 0
  · have h' : ¬ 0 ≤ i := by omega
    by_cases h2 : i + n < 0
    · have h3 : ¬ -(n : Int) ≤ i := by omega
      simp only [h, h', h2, h3, if_true, if_false]
    · have h3 : -(n : Int) ≤ i := by omega
      simp only [h, h', h2, h3, if_true, if_false]
  · have h' : 0 ≤ i := by omega
    by_cases h2 : i.toNat < n
    · have h3 : i < n := by omega
      simp only [h, h', h2, h3, if_true, if_false]
    · have h3 : ¬ i < n := by omega
      simp only [h, h', h2, h3, if_true, if_false]
theorem at_ix {vs : List V} {ds : List D} {i : Int} {d : D} (r : RpA fa K G vs ds) (h : ((ixD ds.length i).bind fun j => ds[j]?) = some d) : ∃ z, atI vs i = some z ∧ Rp fa K G z d := by
  rw [ixD_eq, ← r.length] at h
  unfold atI
  cases e : ixN vs.length i with
  | none => rw [e] at h; cases h
  | some j =>
    rw [e] at h
    obtain ⟨z, h1, h2⟩ := r.get h
    exact ⟨z, h1, h2⟩
def rItem (T : Tb) : R2 := fun x y H Q => ∃ G dx dy d, Sub G H ∧ Rdb T.fa T.K G H x dx ∧ Rdb T.fa T.K G H y dy ∧ itemD dx dy = some d ∧ ∀ z, Rp T.fa T.K G z d → Q z H
theorem ix_ev (hK : X.K = T.K) (hu : X.A.units + 66 < cLine) : IxR X (rItem T) := by
  intro value slice pins s σ H x y v u Q I rx ry h hs
  obtain ⟨G, dx, dy, d, sb, hx, hy, hd, q⟩ := h
  unfold itemD at hd
  split at hd
  · cases rdb_int hy
    obtain ⟨p, vs, rfl, h1, r⟩ := rdb_lst sb hx
    obtain ⟨z, h2, h3⟩ := at_ix r hd
    exact ix_list value slice pins s σ H _ _ v u Q I rx ry ⟨p, vs, _, z, rfl, rfl, by rw [hK]; exact h1, h2, q z h3⟩ hs
  · cases rdb_int hy
    obtain ⟨p, vs, rfl, h1, r⟩ := rdb_tup sb hx
    obtain ⟨z, h2, h3⟩ := at_ix r hd
    exact ix_tup value slice pins s σ H _ _ v u Q I rx ry ⟨p, vs, _, z, rfl, rfl, by rw [hK]; exact h1, h2, q z h3⟩ hs
  · cases rdb_int hy
    obtain ⟨p, vs, rfl, h1, r⟩ := rdb_ktp (H := H) hx
    obtain ⟨z, h2, h3⟩ := at_ix r hd
    exact ix_tup value slice pins s σ H _ _ v u Q I rx ry ⟨p, vs, _, z, rfl, rfl, by rw [hK]; exact h1, h2, q z h3⟩ hs
  · cases rdb_int hy
    cases rdb_str hx
    rename_i z i
    split at hd
    · rename_i hz
      have hl : z.cps.toList.length = z.cps.size := by simp
      rw [ixD_eq] at hd
      cases e : ixN z.cps.size i with
      | none => rw [e] at hd; cases hd
      | some j =>
        rw [e] at hd
        obtain ⟨c, hc, ec⟩ := Option.map_eq_some_iff.mp hd
        subst ec
        exact ix_str value slice pins s σ H _ _ v u Q I rx ry ⟨z, i, c, rfl, rfl, by rw [← LIM_eq]; exact hz, by unfold atI; rw [hl, e]; exact hc, q _ (.str _)⟩ hs
    · cases hd
  · split at hd
    · rename_i hf
      obtain ⟨a, rfl, g⟩ := rdb_dget sb hx hy hf
      rcases g with ⟨z, d', g, e, r⟩ | ⟨g, e⟩
      · rw [hd] at e
        cases e
        cases rx
        exact PyProof.Rows.tail_any (dict_typeIs I g) PySem.F.slot_dict_getitem.lookup (d_getItem (by omega) I g ry fun w' s3 I3 rw' => ⟨z, H, I3, rw', q z r⟩) hs
      · rw [hd] at e; cases e
    · cases hd
  · cases hd

/-! ### parts -/
theorem part_eq (n : Nat) (i : Int) (d : Nat) : partD n i = HT.sIx n d (some i) := by
  unfold partD
  have := HT.clip_eq i n d
  split at this <;> rename_i h
  · rw [if_pos h]; omega
  · rw [if_neg h]; omega
theorem part_lo (n : Nat) (lo : Option Int) : (match lo with | none => 0 | some i => partD n i) = HT.sIx n 0 lo := by
  cases lo with
  | none => rfl
  | some i => exact part_eq n i 0
theorem part_hi (n : Nat) (hi : Option Int) : (match hi with | none => n | some i => partD n i) = HT.sIx n n hi := by
  cases hi with
  | none => rfl
  | some i => exact part_eq n i n
theorem partOf_eq {α : Type} (xs : List α) (lo hi : Option Int) : partOf xs lo hi = (xs.drop (HT.sIx xs.length 0 lo)).take (HT.sIx xs.length xs.length hi - HT.sIx xs.length 0 lo) := by
  rw [← part_lo, ← part_hi]
  rfl
theorem cut_rp {vs : List V} {ds : List D} (r : RpA fa K G vs ds) (lo hi : Option Int) : RpA fa K G (cutV vs lo hi) (partOf ds lo hi) := by
  rw [partOf_eq]
  unfold cutV
  rw [r.length]
  exact (r.drop _).take _
def rPart (T : Tb) : V → Option Int → Option Int → Hp → VK → Prop := fun x lo hi H Q => ∃ G d, Sub G H ∧ Rdb T.fa T.K G H x d ∧ Ret T G H Q (sliceD d lo hi)
theorem sl_ev (hK : X.K = T.K) : SlR X (rPart T) := by
  intro pins s σ H x v vl vu lo hi sl Q I rx hs pl pu h
  obtain ⟨G, d, sb, hd, hr⟩ := h
  unfold sliceD at hr
  split at hr
  · obtain ⟨p, vs, rfl, h1, r⟩ := rdb_lst sb hd
    exact sl_list pins s σ H _ v vl vu lo hi sl Q I rx hs pl pu ⟨p, vs, rfl, by rw [hK]; exact h1, fun a ha => hr.newLst sb (cut_rp r lo hi) ha⟩
  · rename_i ds
    have hd' := hd
    obtain ⟨p, vs, rfl, h1, r⟩ := rdb_tup sb hd
    refine sl_tupA pins s σ H _ v vl vu lo hi sl Q I rx hs pl pu ⟨p, vs, rfl, by rw [hK]; exact h1, fun e => ?_, fun _ a ha => hr.newTup sb (cut_rp r lo hi) ha⟩
    have e2 : partOf ds lo hi = ds := by
      rw [partOf_eq, ← r.length, e.1, e.2, List.drop_zero, Nat.sub_zero, r.length, List.take_length]
    rw [e2] at hr
    exact hr.val sb (hd'.flat (fun _ z => by cases z) (fun _ _ z => by cases z))
  · rename_i z
    cases rdb_str hd
    split at hr
    · rename_i hz
      refine sl_str pins s σ H _ v vl vu lo hi sl Q I rx hs pl pu ⟨z, rfl, by rw [← LIM_eq]; exact hz, ?_⟩
      have e : cutS z lo hi = ⟨(partOf z.cps.toList lo hi).toArray⟩ := by
        unfold cutS
        rw [partOf_eq]
        have hl : z.cps.toList.length = z.length := by simp [Str.length]
        rw [hl]
      rw [e]
      exact hr.val sb (.str _)
    · exact hr.no.elim
  · exact hr.no.elim
end
end Ev
end

section
set_option Elab.async false
set_option linter.all false
set_option maxRecDepth 100000
set_option maxHeartbeats 1000000
/-! EvL: built-ins called by name: by values, over data. -/
namespace Ev
open PySem PySem.Spec L2

/-! ### the text of repr -/
def isSeqD : D → Bool
  | .tup _ => true
  | .lst _ => true
  | _ => false
def repD (d : D) : Option Str := if isSeqD d && plain d && (py d).showable && decide ((py d).shown.length ≤ LIM) then some (py d).shown else none
mutual
theorem plain_noDict : ∀ (n : Nat) (d : D), plainN n d = true → (py d).hasDict = false
  | _, .non, _ => rfl
  | _, .bl b, _ => rfl
  | _, .int i, _ => rfl
  | _, .str s, h => rfl
  | 0, .tup xs, h => by simp [plainN] at h
  | n + 1, .tup xs, h => by simpa [py, PyData.hasDict] using plainAll_noDict n xs (by simpa [plainN] using h)
  | 0, .ktp xs, h => by simp [plainN] at h
  | n + 1, .ktp xs, h => by simpa [py, PyData.hasDict] using plainAll_noDict n xs (by simpa [plainN] using h)
  | 0, .lst xs, h => by simp [plainN] at h
  | n + 1, .lst xs, h => by simpa [py, PyData.hasDict] using plainAll_noDict n xs (by simpa [plainN] using h)
  | _, .dct _ _, h => by simp [plainN] at h
  | _, .fn _, h => by simp [plainN] at h
theorem plainAll_noDict : ∀ (n : Nat) (xs : List D), plainAll n xs = true → PyData.hasDictAll (pyAll xs) = false
  | _, [], _ => rfl
  | n, x :: xs, h => by
    have h' : plainN n x = true ∧ plainAll n xs = true := by simpa [plainAll] using h
    simp [pyAll, PyData.hasDictAll, plain_noDict n x h'.1, plainAll_noDict n xs h'.2]
end

/-! ### arguments -/
section
variable {T : Tb} {fa : Fa} {K : PySem.W.Frag} {G H : Hp} {v : V}
theorem rda1 {xs : List V} {d : D} (h : RdA fa K G H xs [d]) : ∃ x, xs = [x] ∧ Rdb fa K G H x d := by
  cases h with
  | cons h r => cases r; exact ⟨_, rfl, h⟩
theorem rda2 {xs : List V} {d e : D} (h : RdA fa K G H xs [d, e]) : ∃ x y, xs = [x, y] ∧ Rdb fa K G H x d ∧ Rdb fa K G H y e := by
  cases h with
  | cons h r => cases r with
    | cons h2 r => cases r; exact ⟨_, _, rfl, h, h2⟩
theorem BE : ∀ {ds : List D} {bs : List Bool}, boolsD ds = some bs → ds = bs.map .bl
  | [], _, h => by cases h; rfl
  | .bl b :: r, bs, h => by
    simp only [boolsD] at h
    obtain ⟨cs, h1, h2⟩ := Option.map_eq_some_iff.mp h
    subst h2
    rw [BE h1]; rfl
  | .non :: _, _, h => by cases h
  | .int _ :: _, _, h => by cases h
  | .str _ :: _, _, h => by cases h
  | .tup _ :: _, _, h => by cases h
  | .lst _ :: _, _, h => by cases h
  | .dct _ _ :: _, _, h => by cases h
  | .fn _ :: _, _, h => by cases h
theorem IE : ∀ {ds : List D} {bs : List Int}, intsD ds = some bs → ds = bs.map .int
  | [], _, h => by cases h; rfl
  | .int b :: r, bs, h => by
    simp only [intsD] at h
    obtain ⟨cs, h1, h2⟩ := Option.map_eq_some_iff.mp h
    subst h2
    rw [IE h1]; rfl
  | .non :: _, _, h => by cases h
  | .bl _ :: _, _, h => by cases h
  | .str _ :: _, _, h => by cases h
  | .tup _ :: _, _, h => by cases h
  | .lst _ :: _, _, h => by cases h
  | .dct _ _ :: _, _, h => by cases h
  | .fn _ :: _, _, h => by cases h
theorem rpA_bls : ∀ (bs : List Bool) {vs : List V}, RpA fa K G vs (bs.map .bl) → vs = bs.map .bl
  | [], _, .nil => rfl
  | b :: bs, _, .cons (.bl _) r => by rw [rpA_bls bs r]; rfl
theorem rpA_ints : ∀ (bs : List Int) {vs : List V}, RpA fa K G vs (bs.map .int) → vs = bs.map .int
  | [], _, .nil => rfl
  | b :: bs, _, .cons (.int _) r => by rw [rpA_ints bs r]; rfl
theorem minL_spec : ∀ (r : List Int) (m : Int), minL m r ∈ m :: r ∧ ∀ y ∈ m :: r, minL m r ≤ y
  | [], m => by simp [minL]
  | x :: r, m => by
    unfold minL
    by_cases q : x < m
    · rw [if_pos q]
      obtain ⟨h1, h2⟩ := minL_spec r x
      have h3 := h2 x (List.mem_cons_self ..)
      refine ⟨List.mem_cons_of_mem _ h1, fun y hy => ?_⟩
      rcases List.mem_cons.mp hy with h | h
      · subst h; omega
      · exact h2 y h
    · rw [if_neg q]
      obtain ⟨h1, h2⟩ := minL_spec r m
      have h3 := h2 m (List.mem_cons_self ..)
      refine ⟨(List.mem_cons.mp h1).elim (fun e => by rw [e]; simp) fun e => by simp [e], fun y hy => ?_⟩
      rcases List.mem_cons.mp hy with h | h
      · subst h; exact h3
      · rcases List.mem_cons.mp h with h | h
        · subst h; omega
        · exact h2 y (List.mem_cons_of_mem _ h)
theorem maxL_spec : ∀ (r : List Int) (m : Int), maxL m r ∈ m :: r ∧ ∀ y ∈ m :: r, y ≤ maxL m r
  | [], m => by simp [maxL]
  | x :: r, m => by
    unfold maxL
    by_cases q : m < x
    · rw [if_pos q]
      obtain ⟨h1, h2⟩ := maxL_spec r x
      have h3 := h2 x (List.mem_cons_self ..)
      refine ⟨List.mem_cons_of_mem _ h1, fun y hy => ?_⟩
      rcases List.mem_cons.mp hy with h | h
      · subst h; omega
      · exact h2 y h
    · rw [if_neg q]
      obtain ⟨h1, h2⟩ := maxL_spec r m
      have h3 := h2 m (List.mem_cons_self ..)
      refine ⟨(List.mem_cons.mp h1).elim (fun e => by rw [e]; simp) fun e => by simp [e], fun y hy => ?_⟩
      rcases List.mem_cons.mp hy with h | h
      · subst h; exact h3
      · rcases List.mem_cons.mp h with h | h
        · subst h; omega
        · exact h2 y (List.mem_cons_of_mem _ h)
/-- a dict that can be read -/
theorem rdb_dct (s : Sub G H) {t : Bool} {es : List (D × D)} (h : Rdb fa K G H v (.dct t es)) : ∃ a, v = .ref a ∧
    ((t = false ∧ ∃ (ks : List Key) (xs : List V) (ds : List D), Rd H a (.dK (ks.zip xs)) ∧ ks.length = xs.length ∧ RpA fa K G xs ds ∧ es = (ks.map kD).zip ds) ∨
     (t = true ∧ ∃ (ks : List (List Key)) (xs : List V) (ds : List D), Rd H a (.dT (ks.zip xs)) ∧ ks.length = xs.length ∧ RpA fa K G xs ds ∧ es = (ks.map fun k => D.tup (k.map kD)).zip ds)) := by
  rcases h with h | ⟨p, rfl, hn, o⟩
  · cases h with
    | dK h l r => exact ⟨_, rfl, .inl ⟨rfl, _, _, _, s.rd _ _ h, l, r, rfl⟩⟩
    | dT h l r => exact ⟨_, rfl, .inr ⟨rfl, _, _, _, s.rd _ _ h, l, r, rfl⟩⟩
  · rcases o with ⟨_, _, e, _⟩ | ⟨ks, vs, ds, e, h, l, r⟩ | ⟨ks, vs, ds, e, h, l, r⟩
    · cases e
    · cases e; exact ⟨p, rfl, .inl ⟨rfl, ks, vs, ds, .inl h, l, r, rfl⟩⟩
    · cases e; exact ⟨p, rfl, .inr ⟨rfl, ks, vs, ds, .inl h, l, r, rfl⟩⟩
end

/-! ### sorted -/
section
variable {X : Cx} {T : Tb} {fa : Fa} {K : PySem.W.Frag} {G H : Hp}
theorem each_zip {R : Value → V × D → Prop} : ∀ {us : List Value} {vs : List V} {ds : List D}, us.length = vs.length → vs.length = ds.length → (∀ (i : Nat) (u : Value) (v : V) (d : D), us[i]? = some u → vs[i]? = some v → ds[i]? = some d → R u (v, d)) → PySem.W.EachIs R us (vs.zip ds)
  | [], [], [], _, _, _ => .nil
  | u :: us, v :: vs, d :: ds, h1, h2, h => .cons (h 0 u v d rfl rfl rfl) (each_zip (by simpa using h1) (by simpa using h2) fun i u v d a b c => h (i + 1) u v d (by simpa using a) (by simpa using b) (by simpa using c))
  | [], _ :: _, _, h, _, _ => by simp at h
  | _ :: _, [], _, h, _, _ => by simp at h
  | [], [], _ :: _, _, h, _ => by simp at h
  | _ :: _, _ :: _, [], _, h, _ => by simp at h
theorem each_vals : ∀ {us : List Value} {bs : List (V × D)}, PySem.W.EachIs (fun u b => RelV b.1 u) us bs → Vals (bs.map (·.1)) us
  | _, _, .nil => .nil
  | _, _, .cons h r => .cons h (each_vals r)
theorem rpA_zip : ∀ {vs : List V} {ds : List D}, RpA fa K G vs ds → ∀ b ∈ vs.zip ds, Rp fa K G b.1 b.2
  | _, _, .nil => fun b h => by simp at h
  | _, _, .cons h r => fun b hb => by
    rcases List.mem_cons.mp hb with rfl | hb
    · exact h
    · exact rpA_zip r b hb
theorem rpA_of : ∀ {bs : List (V × D)}, (∀ b ∈ bs, Rp fa K G b.1 b.2) → RpA fa K G (bs.map (·.1)) (bs.map (·.2))
  | [], _ => .nil
  | b :: bs, h => .cons (h b (by simp)) (rpA_of fun c hc => h c (by simp [hc]))
theorem zip_snd : ∀ {vs : List V} {ds : List D}, vs.length = ds.length → (vs.zip ds).map (·.2) = ds
  | [], [], _ => rfl
  | v :: vs, d :: ds, h => by simp only [List.zip_cons_cons, List.map_cons, zip_snd (by simpa using h : vs.length = ds.length)]
  | [], _ :: _, h => by simp at h
  | _ :: _, [], h => by simp at h
/-- what sorting pairs leaves -/
theorem sorted_rp {vs : List V} {ds : List D} (r : RpA fa K G vs ds) (ha : allAlike ds = true) :
    RpA fa K G (((vs.zip ds).mergeSort (PySem.W.dataLe false fun b => py b.2)).map (·.1)) (isort ds) := by
  have e := sort_pairs (vs.zip ds) (by rw [zip_snd r.length]; exact ha)
  rw [zip_snd r.length] at e
  rw [← e]
  exact rpA_of fun b hb => rpA_zip r b ((List.mergeSort_perm _ _).mem_iff.mp hb)
theorem plain_list {ds : List D} (h : plain (.lst ds) = true) : plainAll 39 ds = true := by
  simpa [plain, plainN] using h
theorem plainAll_get : ∀ {n : Nat} {ds : List D}, plainAll n ds = true → ∀ d ∈ ds, plainN n d = true
  | _, [], _, d, h => by cases h
  | n, x :: xs, p, d, h => by
    have h' : plainN n x = true ∧ plainAll n xs = true := by simpa [plainAll] using p
    rcases List.mem_cons.mp h with rfl | h
    · exact h'.1
    · exact plainAll_get h'.2 d h
/-- sorted of what can be gathered -/
theorem sorted_gathered {pins : List (Addr × Obj)} {s : Shared} {σ : L2.St} {r : Addr} {Q : VK} {vs : List V} {ds : List D} (hK : X.K = K) (hu : X.A.units + 66 < cLine) (I : Inv X pins σ H s) (sb : Sub G H)
    (hcol : ∀ (R : List Value → Shared → Prop), (∀ (h' : Heap) (tk : Nat) (us : List Value), (∀ b o, s.heap.get? b = some o → h'.get? b = some o) → Vals vs us → R us { s with heap := h', toks := tk }) → wpAny (model X.prog X.w) X.A.in1 (PySem.collect (.ref r)) R X.xe s)
    (hr : RpA fa K G vs ds) (hp : plain (.lst ds) = true) (ha : allAlike ds = true) (hs : sortable ds = true) (hL : vs.length ≤ sizeLine)
    (q : ∀ p vs', H p = none → RpA fa K G vs' (isort ds) → vs'.length = vs.length → Q (.ref p) (upd H p (.lst vs'))) :
    wpAny (model X.prog X.w) X.A (call (.builtin "sorted") [.ref r]) (EP X pins σ Q) X.xe s := by
  refine Calls.call_function_entry PyProof.Rows.kind_sorted PyProof.Rows.plain_sorted PyProof.Rows.entry_sorted (PyProof.Rows.args_sorted1 _) ?_
  unfold Builtin.«sorted»
  refine wpAny_bind (m := PySem.checkCount "sorted" 1 1 _) (wpAny_pure ?_)
  refine wpAny_bind (hcol _ fun h' tk us hk rv => ?_)
  have hlu : us.length = vs.length := rv.length.symm
  refine wpAny_bind (wpAny_newList ?_ (by rw [hlu]; exact hL))
  have I1 : Inv X pins σ H { s with heap := h', toks := tk } := I.kept hk
  have hk2 : ∀ b o, h'.get? b = some o → (h'.push (PyProof.Rows.seqObj "list" us.toArray 0)).get? b = some o := fun b o e => Heap.get?_push_of_some _ e
  have hpl := plainAll_get (plain_list hp)
  have rd : PySem.W.EachIs (fun (u : Value) (b : V × D) => RelV b.1 u ∧ ∃ as, Reads (h'.push (PyProof.Rows.seqObj "list" us.toArray 0)) u (py b.2) as ∧ h'.objs.size ∉ as) us (vs.zip ds) := by
    refine each_zip hlu hr.length fun i u v d e1 e2 e3 => ?_
    have rel : RelV v u := by
      obtain ⟨u', e4, r4⟩ := rv.get e2
      rw [e1] at e4
      cases e4
      exact r4
    obtain ⟨d', e5, r5⟩ := hr.getV e2
    rw [e3] at e5
    cases e5
    obtain ⟨as, ra⟩ := Dp.reads I1 (py d) v u (by rw [hK]; exact rp_dp sb r5 (hpl d (List.mem_of_getElem? e3))) rel
    refine ⟨rel, as, PyProof.Rows.Reads.keeps hk2 ra, fun hm => ?_⟩
    obtain ⟨o, ho⟩ := PyProof.On.reads_mem_get ra _ hm
    exact absurd (Heap.lt_size ho) (Nat.lt_irrefl _)
  have hz : (vs.zip ds).length = vs.length := by rw [List.length_zip, hr.length, Nat.min_self]
  have hsnd := zip_snd hr.length
  have ho : (h'.push (PyProof.Rows.seqObj "list" us.toArray 0)).get? h'.objs.size = some (PyProof.Rows.seqObj "list" us.toArray 0) := Heap.get?_push_size _ rfl
  refine wpAny_bind (wpAny_holding (PySem.W.list_sort_data (R := fun u (b : V × D) => RelV b.1 u) (enc := fun b : V × D => py b.2) (bs := vs.zip ds) ho (rd.mono fun _ _ h => h.1) (rd.mono fun _ _ h => h.2) ?_ ?_ (by rw [hz]; exact hL) ?_ fun out hlen eo => ?_))
  · have := allAlike_py ha
    rw [← hsnd, pyAll_map] at this
    exact this
  · have := sortable_py hs
    rw [← hsnd, pyAll_map] at this
    exact this
  · intro b hb
    have hd := (plain_py 39 b.2 (hpl b.2 (List.of_mem_zip hb).2)).2
    show X.A.units + 1 + 1 + (py b.2).depth < cLine
    omega
  · refine wpAny_pure ⟨_, rfl, ?_⟩
    have rv2 := each_vals eo
    have hl2 : (((vs.zip ds).mergeSort (PySem.W.dataLe false fun b => py b.2)).map (·.1)).length = vs.length := by rw [List.length_map, List.length_mergeSort, hz]
    obtain ⟨e, he⟩ := PyProof.Rows.sortedHeap_at (out := out.toArray) ho
    refine ⟨.ref h'.objs.size, upd H h'.objs.size (.lst (((vs.zip ds).mergeSort (PySem.W.dataLe false fun b => py b.2)).map (·.1))), ?_, rfl, q _ _ (I1.hok.fresh (Nat.le_refl _)) (sorted_rp hr ha) hl2⟩
    refine Inv.laid (s := { s with heap := h', toks := tk }) (t' := tk) I1 (fun b u e' => ?_) (Nat.le_refl _) ⟨by rw [hl2]; exact hL, out, e, rv2, he⟩
    show (PyProof.Rows.sortedHeap _ _ us out.toArray).get? b = some u
    rw [PyProof.Rows.sortedHeap_old (Nat.ne_of_lt (Heap.lt_size e')) (by rw [PyProof.Rows.size_push']; exact Nat.lt_succ_of_lt (Heap.lt_size e'))]
    exact Heap.get?_push_of_some _ e'
end

/-! ### a dict's keys, gathered -/
theorem kv_keys : ∀ {ks : List Key} {xs : List V}, ks.length = xs.length → (ks.zip xs).map (·.1) = ks
  | [], [], _ => rfl
  | k :: ks, v :: vs, h => by simp only [List.zip_cons_cons, List.map_cons, kv_keys (by simpa using h : ks.length = vs.length)]
  | [], _ :: _, h => by simp at h
  | _ :: _, [], h => by simp at h
theorem kt_keys : ∀ {ks : List (List Key)} {xs : List V}, ks.length = xs.length → (ks.zip xs).map (·.1) = ks
  | [], [], _ => rfl
  | k :: ks, v :: vs, h => by simp only [List.zip_cons_cons, List.map_cons, kt_keys (by simpa using h : ks.length = vs.length)]
  | [], _ :: _, h => by simp at h
  | _ :: _, [], h => by simp at h
theorem zip_fst {α β : Type} : ∀ {xs : List α} {ys : List β}, xs.length = ys.length → (xs.zip ys).map (·.1) = xs
  | [], [], _ => rfl
  | x :: xs, y :: ys, h => by simp only [List.zip_cons_cons, List.map_cons, zip_fst (by simpa using h : xs.length = ys.length)]
  | [], _ :: _, h => by simp at h
  | _ :: _, [], h => by simp at h
theorem rp_kD {fa : Fa} {K : PySem.W.Frag} {G : Hp} : ∀ k : Key, Rp fa K G (kV k) (kD k)
  | .inl i => .int i
  | .inr x => .str x
theorem rpA_kD {fa : Fa} {K : PySem.W.Frag} {G : Hp} : ∀ ks : List Key, RpA fa K G (ks.map kV) (ks.map kD)
  | [] => .nil
  | k :: ks => .cons (rp_kD k) (rpA_kD ks)
section
variable {X : Cx} {H : Hp} {pins : List (Addr × Obj)} {s : Shared} {σ : L2.St}
theorem dk_gather (hc : X.calm = true) (I : Inv X pins σ H s) {a : Addr} {ks : List Key} {xs : List V} (h : Rd H a (.dK (ks.zip xs))) (hl : ks.length = xs.length)
    (R : List Value → Shared → Prop) (hr : ∀ (h' : Heap) (tk : Nat) (us : List Value), (∀ b o, s.heap.get? b = some o → h'.get? b = some o) → Vals (ks.map kV) us → R us { s with heap := h', toks := tk }) :
    wpAny (model X.prog X.w) X.A.in1 (PySem.collect (.ref a)) R X.xe s ∧ ks.length ≤ sizeLine := by
  obtain ⟨z, lo, vs, rk, hd⟩ := dk_rd I.hok h
  obtain ⟨ep, hat⟩ := hd.dictAt
  have hl0 : (ks.zip xs).length = ks.length := by rw [List.length_zip, hl, Nat.min_self]
  have hl2 : (ks.zip xs).length = vs.length := Paired.length rk
  refine ⟨PySem.W.kdu_collect (PySem.W.kdl_dict (knd := mixKind X.prog X.w) (kvs := vs) (ep := ep) lo) (I.ok.hd hc) hat (by rw [← hl2]; exact z) fun h' tk acc hk hacc => hr h' tk _ hk ?_, by rw [← hl0]; exact z⟩
  have ls : acc.toList.length = acc.size := by simp
  refine vals_of_at (by rw [List.length_map, ls, hacc.1, ← hl2, hl0]) fun j x w h1 h2 => ?_
  obtain ⟨k, y, hky, hi⟩ := hacc.2 j w (by rw [← Array.getElem?_toList]; exact h2)
  have e1 : ks[j]? = some k := by
    rw [← kv_keys hl, KV.keys rk, List.getElem?_map, hky]; rfl
  rw [List.getElem?_map, e1] at h1
  cases h1
  exact keyIs_rel hi
theorem dt_gather (hc : X.calm = true) (I : Inv X pins σ H s) {a : Addr} {kvs : List (List Key × V)} (h : Rd H a (.dT kvs)) :
    ∃ bs : List Addr, IsKeys H kvs bs ∧ kvs.length ≤ sizeLine ∧ ∀ (R : List Value → Shared → Prop), (∀ (h' : Heap) (tk : Nat) (us : List Value), (∀ b o, s.heap.get? b = some o → h'.get? b = some o) → Vals (bs.map V.ref) us → R us { s with heap := h', toks := tk }) →
      wpAny (model X.prog X.w) X.A.in1 (PySem.collect (.ref a)) R X.xe s := by
  obtain ⟨z, hs, zs, pr, o, es, ep, ho, hx, hdt, he, hn⟩ := (show ObjOk X.prog X.w H s.heap a (.dT kvs) from h.ok I.hok)
  have l1 : es.size = zs.length := size_of_entries he
  have l2 : kvs.length = zs.length := Paired.length pr
  refine ⟨zs.map fun x => x.2.1, isKeys_of pr, z, fun R hr => ?_⟩
  refine PySem.W.kdu_collect (kdl_raw hs hx hdt) (I.ok.hd hc) ho (by omega) fun h' tk acc hk it => hr h' tk _ hk ?_
  have ea : acc.toList = (zs.map fun x => x.2.1).map Value.ref := by
    have hl : acc.toList.length = zs.length := by rw [Array.length_toList, it.1]; exact l1
    refine List.ext_getElem? fun j => ?_
    rw [List.getElem?_map, List.getElem?_map]
    cases hj : acc.toList[j]? with
    | none =>
      have h1 := List.getElem?_eq_none_iff.mp hj
      rw [List.getElem?_eq_none (by omega)]
      rfl
    | some v =>
      obtain ⟨en, hen, hv⟩ := it.2 j v (by rw [← Array.getElem?_toList]; exact hj)
      have qe := entry_at he j
      rw [hen] at qe
      cases hb : zs[j]? with
      | none =>
        rw [hb] at qe
        exact nomatch (show some en = none from qe)
      | some b =>
        rw [hb] at qe
        have e2 : en = entryOfKey (tupleKind (mixKind X.prog X.w)) b := Option.some.inj qe
        rw [hv, e2]
        rfl
  rw [ea]
  exact vals_refs _
end

/-! ### tuples that are seen from now on -/
section
variable {T : Tb} {G G' H H' : Hp}
theorem New.trans {G2 H2 : Hp} (a : New T G H G' H') (b : New T G' H' G2 H2) : New T G H G2 H2 :=
  ⟨b.sub, a.mono.trans b.mono, fun x n => by
    obtain ⟨e1, e2⟩ := a.old x n
    obtain ⟨f1, f2⟩ := b.old x (by rw [e1]; exact n)
    refine ⟨f1.trans e1, fun q => ?_⟩
    rcases e2 q with e2 | e2
    · rcases f2 e2 with f2 | ⟨xs, f2⟩
      · exact .inl f2
      · exact .inr ⟨xs, by rw [← e1]; exact f2⟩
    · exact .inr e2⟩
theorem Ret.see {Q : VK} {o : Option Rs} (h : Ret T G H Q o) (n : New T G H G' H) : Ret T G' H Q o := by
  obtain ⟨r, e, q⟩ := h
  exact ⟨r, e, fun v G2 H2 n2 rk nk => q v G2 H2 (n.trans n2) rk nk⟩
theorem New.tupSeen (s : Sub G H) {b : Addr} {xs : List V} (h : H b = some (.tup xs)) : New T G H (upd G b (.tup xs)) H := by
  have sv : Sub (upd G b (.tup xs)) H := s.vis h fun _ _ z => by cases z
  refine ⟨sv, ?_, fun a n => ⟨rfl, fun q => ?_⟩⟩
  · refine ⟨fun a u r => ?_, fun a ys r => ?_⟩
    · by_cases e : a = b
      · subst e
        rcases r with r | ⟨w, r⟩
        · rcases s.rd _ _ (.inl r) with r2 | ⟨w, r2⟩
          · rw [h] at r2; cases r2; exact .inl upd_same
          · rw [h] at r2; cases r2
        · rcases s.rd _ _ (.inr ⟨w, r⟩) with r2 | ⟨w, r2⟩
          · rw [h] at r2; cases r2; exact .inl upd_same
          · rw [h] at r2; cases r2
      · rcases r with r | ⟨w, r⟩
        · exact .inl (by rw [upd_ne e]; exact r)
        · exact .inr ⟨w, by rw [upd_ne e]; exact r⟩
    · by_cases e : a = b
      · subst e
        have := s.tup _ _ r
        rw [h] at this
        cases this
        exact upd_same
      · rw [upd_ne e]; exact r
  · by_cases e : a = b
    · subst e; exact .inr ⟨xs, h⟩
    · exact .inl (by rw [upd_ne e]; exact q)
theorem keys_seen (s : Sub G H) : ∀ {kvs : List (List Key × V)} {bs : List Addr}, IsKeys H kvs bs → ∃ G', New T G H G' H ∧ RpA T.fa T.K G' (bs.map V.ref) (kvs.map fun e => D.tup (e.1.map kD)) := by
  intro kvs bs h
  unfold IsKeys at h
  induction h with
  | nil => exact ⟨G, New.refl s, .nil⟩
  | @cons p b ps bs h1 h2 ih =>
    obtain ⟨G1, n1, r1⟩ := ih
    have n2 : New T G1 H (upd G1 b (.tup (p.1.map kV))) H := New.tupSeen n1.sub h1
    exact ⟨_, n1.trans n2, .cons (.tup upd_same (rpA_kD _)) (r1.mono n2.mono)⟩
end

/-! ### the calls -/
def biVal : Bi → Value
  | .len => .builtin "len" | .list => .type "list" | .tuple => .type "tuple" | .sorted => .builtin "sorted" | .all => .builtin "all" | .any => .builtin "any"
  | .min => .builtin "min" | .max => .builtin "max" | .sum => .builtin "sum" | .abs => .builtin "abs" | .int => .type "int" | .str => .type "str" | .bool => .type "bool"
  | .repr => .builtin "repr" | .gcd => .builtin "math.gcd" | .lcm => .builtin "math.lcm" | .comb => .builtin "math.comb" | .set => .type "set"
def rBi (T : Tb) (b : Bi) : List V → Hp → VK → Prop := fun xs H Q => ∃ G ds, Sub G H ∧ RdA T.fa T.K G H xs ds ∧ Ret T G H Q (biD T.pr.rep b ds)
section
variable {X : Cx} {T : Tb}
theorem len_dT {X : Cx} {pins : List (Addr × Obj)} {s : Shared} {σ : L2.St} {H : Hp} {a : Addr} {kvs : List (List Key × V)} {Q : VK} (I : Inv X pins σ H s) (h : Rd H a (.dT kvs)) (q : Q (.int (kvs.length : Nat)) H) :
    wpAny (model X.prog X.w) X.A (call (.builtin "len") [.ref a]) (EP X pins σ Q) X.xe s := by
  obtain ⟨z, hd, ys, rel, dd⟩ := dt_rd I.hok h
  have hl : kvs.length = ys.length := Paired.length rel
  refine PySem.call_len_dictH hd dd (by rw [← hl]; rw [sizeLine_eq] at z; omega) ?_
  rw [← hl]
  exact ⟨.int ((kvs.length : Nat) : Int), H, I.tok _, ⟨_, rfl⟩, q⟩
theorem call_len_ev (hK : X.K = T.K) : CallR X (biVal .len) (rBi T .len) := by
  intro pins s σ H xs us Q I r h
  obtain ⟨G, ds, sb, ha, hr⟩ := h
  unfold biD bLen at hr
  simp only at hr
  split at hr
  · obtain ⟨x, rfl, hx⟩ := rda1 ha
    obtain ⟨p, vs, rfl, h1, r1⟩ := rdb_lst sb hx
    exact call_len pins s σ H _ us Q I r ⟨_, vs.length, rfl, .inl ⟨vs, by rw [hK]; exact h1, rfl⟩, by rw [r1.length]; exact hr.val sb (.int _)⟩
  · obtain ⟨x, rfl, hx⟩ := rda1 ha
    obtain ⟨p, vs, rfl, h1, r1⟩ := rdb_tup sb hx
    exact call_len pins s σ H _ us Q I r ⟨_, vs.length, rfl, .inr ⟨vs, by rw [hK]; exact h1, rfl⟩, by rw [r1.length]; exact hr.val sb (.int _)⟩
  · obtain ⟨x, rfl, hx⟩ := rda1 ha
    obtain ⟨p, vs, rfl, h1, r1⟩ := rdb_ktp (H := H) hx
    exact call_len pins s σ H _ us Q I r ⟨_, vs.length, rfl, .inr ⟨vs, by rw [hK]; exact h1, rfl⟩, by rw [r1.length]; exact hr.val sb (.int _)⟩
  · obtain ⟨x, rfl, hx⟩ := rda1 ha
    cases rdb_str hx
    split at hr
    · rename_i hz
      exact call_len pins s σ H _ us Q I r ⟨_, _, rfl, ⟨by rw [← LIM_eq]; exact hz, rfl⟩, hr.val sb (.int _)⟩
    · exact hr.no.elim
  · obtain ⟨x, rfl, hx⟩ := rda1 ha
    obtain ⟨u, rfl, rx⟩ := vals1 r
    obtain ⟨a, rfl, hd⟩ := rdb_dct sb hx
    obtain rfl : u = .ref a := rx
    rcases hd with ⟨rfl, ks, vs, ds, h, l, r1, e⟩ | ⟨rfl, ks, vs, ds, h, l, r1, e⟩
    · have hl : (ks.zip vs).length = ((ks.map kD).zip ds).length := by rw [List.length_zip, List.length_zip, List.length_map, r1.length]
      rw [e, ← hl] at hr
      exact d_len I h fun t s' I' => ⟨.int _, H, I', ⟨t, rfl⟩, hr.val sb (.int _)⟩
    · have hl : (ks.zip vs).length = ((ks.map fun k => D.tup (k.map kD)).zip ds).length := by rw [List.length_zip, List.length_zip, List.length_map, r1.length]
      rw [e, ← hl] at hr
      exact len_dT I h (hr.val sb (.int _))
  · exact hr.no.elim
theorem call_list_ev (hK : X.K = T.K) : CallR X (biVal .list) (rBi T .list) := by
  intro pins s σ H xs us Q I r h
  obtain ⟨G, ds, sb, ha, hr⟩ := h
  unfold biD bList at hr
  simp only at hr
  split at hr
  · obtain ⟨x, rfl, hx⟩ := rda1 ha
    obtain ⟨p, vs, rfl, h1, r1⟩ := rdb_lst sb hx
    exact call_list_of pins s σ H _ us Q I r ⟨p, vs, rfl, .inl (by rw [hK]; exact h1), fun l hl => hr.newLst sb r1 hl⟩
  · obtain ⟨x, rfl, hx⟩ := rda1 ha
    obtain ⟨p, vs, rfl, h1, r1⟩ := rdb_tup sb hx
    exact call_list_of pins s σ H _ us Q I r ⟨p, vs, rfl, .inr (by rw [hK]; exact h1), fun l hl => hr.newLst sb r1 hl⟩
  · exact hr.no.elim
theorem call_tuple_ev (hK : X.K = T.K) : CallR X (biVal .tuple) (rBi T .tuple) := by
  intro pins s σ H xs us Q I r h
  obtain ⟨G, ds, sb, ha, hr⟩ := h
  unfold biD bTuple at hr
  simp only at hr
  split at hr
  · obtain ⟨x, rfl, hx⟩ := rda1 ha
    obtain ⟨p, vs, rfl, h1, r1⟩ := rdb_lst sb hx
    exact call_tuple_of pins s σ H _ us Q I r ⟨p, vs, rfl, .inl ⟨by rw [hK]; exact h1, fun l hl => hr.newTup sb r1 hl⟩⟩
  · obtain ⟨x, rfl, hx⟩ := rda1 ha
    have hx' := hx
    obtain ⟨p, vs, rfl, h1, r1⟩ := rdb_tup sb hx
    exact call_tuple_of pins s σ H _ us Q I r ⟨p, vs, rfl, .inr ⟨by rw [hK]; exact h1, hr.val sb (hx'.flat (fun _ z => by cases z) (fun _ _ z => by cases z))⟩⟩
  · exact hr.no.elim
theorem sortD_some {xs : List D} {G H : Hp} {Q : VK} (h : Ret T G H Q (sortD xs)) : (plain (.lst xs) = true ∧ allAlike xs = true ∧ sortable xs = true) ∧ Ret T G H Q (some (.fr (.lst (isort xs)))) := by
  unfold sortD at h
  split at h
  · rename_i hp
    rw [Bool.and_eq_true, Bool.and_eq_true] at hp
    exact ⟨⟨hp.1.1, hp.1.2, hp.2⟩, h⟩
  · exact h.no.elim
theorem call_sorted_ev (hK : X.K = T.K) (hc : X.calm = true) (hu : X.A.units + 66 < cLine) : CallR X (biVal .sorted) (rBi T .sorted) := by
  intro pins s σ H xs us Q I r h
  obtain ⟨G, ds, sb, ha, hr⟩ := h
  unfold biD bSorted at hr
  simp only at hr
  split at hr
  · obtain ⟨x, rfl, hx⟩ := rda1 ha
    obtain ⟨u, rfl, rx⟩ := vals1 r
    obtain ⟨p, vs, rfl, h1, r1⟩ := rdb_lst sb hx
    obtain rfl : u = .ref p := rx
    obtain ⟨⟨hp, hal, hso⟩, hr⟩ := sortD_some hr
    obtain ⟨its, rv, pl, hz⟩ := I.list (by rw [hK]; exact h1)
    refine sorted_gathered (K := T.K) hK hu I sb (fun R hR => PyProof.Rows.collect_list pl.isList (hR _ s.toks its (fun b o e => ?_) rv) (by rw [← rv.length]; exact hz)) r1 hp hal hso hz fun q vs' hq rv' _ => hr.newLst sb rv' hq
    rw [Heap.get?_update_ne _ _ _ _ (Nat.ne_of_lt (Heap.lt_size e))]
    exact Heap.get?_push_of_some _ e
  · obtain ⟨x, rfl, hx⟩ := rda1 ha
    obtain ⟨u, rfl, rx⟩ := vals1 r
    obtain ⟨a, rfl, hd⟩ := rdb_dct sb hx
    obtain rfl : u = .ref a := rx
    obtain ⟨⟨hp, hal, hso⟩, hr⟩ := sortD_some hr
    rcases hd with ⟨rfl, ks, vs, ds, h, l, r1, e⟩ | ⟨rfl, ks, vs, ds, h, l, r1, e⟩
    · subst e
      have hk : (((ks.map kD).zip ds).map (·.1)) = ks.map kD := zip_fst (by rw [List.length_map, l, r1.length])
      rw [hk] at hp hal hso hr
      have hz := (dk_gather hc I h l (fun _ _ => True) fun _ _ _ _ _ => trivial).2
      exact sorted_gathered (K := T.K) hK hu I sb (fun R hR => (dk_gather hc I h l R hR).1) (rpA_kD ks) hp hal hso (by rw [List.length_map]; exact hz) fun q vs' hq rv' _ => hr.newLst sb rv' hq
    · subst e
      have hk : (((ks.map fun k => D.tup (k.map kD)).zip ds).map (·.1)) = ks.map fun k => D.tup (k.map kD) := zip_fst (by rw [List.length_map, l, r1.length])
      rw [hk] at hp hal hso hr
      obtain ⟨bs, ik, hz, hcol⟩ := dt_gather hc I h
      obtain ⟨G', n, r2⟩ := keys_seen (T := T) sb ik
      have e2 : (ks.zip vs).map (fun e => D.tup (e.1.map kD)) = ks.map fun k => D.tup (k.map kD) := by
        have := kt_keys l
        rw [← this, List.map_map, this]; rfl
      rw [e2] at r2
      have hl : (bs.map V.ref).length ≤ sizeLine := by
        rw [r2.length, List.length_map]
        rw [List.length_zip, l, Nat.min_self] at hz
        rw [l]; exact hz
      exact sorted_gathered (K := T.K) hK hu I n.sub hcol r2 hp hal hso hl fun q vs' hq rv' _ => (hr.see n).newLst n.sub rv' hq
  · exact hr.no.elim
theorem call_all_ev (hK : X.K = T.K) (hc : X.calm = true) : CallR X (biVal .all) (rBi T .all) := by
  intro pins s σ H xs us Q I r h
  obtain ⟨G, ds, sb, ha, hr⟩ := h
  unfold biD bAll at hr
  simp only at hr
  split at hr
  · rename_i zs
    obtain ⟨x, rfl, hx⟩ := rda1 ha
    obtain ⟨p, vs, rfl, h1, r1⟩ := rdb_lst sb hx
    cases e : boolsD zs with
    | none => rw [e] at hr; exact hr.no.elim
    | some bs =>
      rw [e] at hr
      cases BE e
      cases rpA_bls bs r1
      exact cr_all hc pins s σ H _ us Q I r ⟨p, bs, rfl, by rw [hK]; exact h1, hr.val sb (.bl _)⟩
  · exact hr.no.elim
theorem call_any_ev (hK : X.K = T.K) (hc : X.calm = true) : CallR X (biVal .any) (rBi T .any) := by
  intro pins s σ H xs us Q I r h
  obtain ⟨G, ds, sb, ha, hr⟩ := h
  unfold biD bAny at hr
  simp only at hr
  split at hr
  · rename_i zs
    obtain ⟨x, rfl, hx⟩ := rda1 ha
    obtain ⟨p, vs, rfl, h1, r1⟩ := rdb_lst sb hx
    cases e : boolsD zs with
    | none => rw [e] at hr; exact hr.no.elim
    | some bs =>
      rw [e] at hr
      cases BE e
      cases rpA_bls bs r1
      exact cr_any hc pins s σ H _ us Q I r ⟨p, bs, rfl, by rw [hK]; exact h1, hr.val sb (.bl _)⟩
  · exact hr.no.elim
theorem call_sum_ev (hK : X.K = T.K) (hc : X.calm = true) : CallR X (biVal .sum) (rBi T .sum) := by
  intro pins s σ H xs us Q I r h
  obtain ⟨G, ds, sb, ha, hr⟩ := h
  unfold biD bSum at hr
  simp only at hr
  split at hr
  · rename_i zs
    obtain ⟨x, rfl, hx⟩ := rda1 ha
    obtain ⟨p, vs, rfl, h1, r1⟩ := rdb_lst sb hx
    cases e : intsD zs with
    | none => rw [e] at hr; exact hr.no.elim
    | some bs =>
      rw [e] at hr
      cases IE e
      cases rpA_ints bs r1
      exact cr_sum hc pins s σ H _ us Q I r ⟨p, bs, rfl, by rw [hK]; exact h1, hr.val sb (.int _)⟩
  · exact hr.no.elim
theorem call_min_ev (hK : X.K = T.K) (hc : X.calm = true) : CallR X (biVal .min) (rBi T .min) := by
  intro pins s σ H xs us Q I r h
  obtain ⟨G, ds, sb, ha, hr⟩ := h
  unfold biD bMin at hr
  simp only at hr
  split at hr
  · obtain ⟨x, y, rfl, hx, hy⟩ := rda2 ha
    cases rdb_int hx; cases rdb_int hy
    exact call_min2 hc pins s σ H _ us Q I r ⟨_, _, rfl, hr.val sb (.int _)⟩
  · rename_i zs
    obtain ⟨x, rfl, hx⟩ := rda1 ha
    obtain ⟨p, vs, rfl, h1, r1⟩ := rdb_lst sb hx
    split at hr
    · rename_i m rest e
      cases IE e
      cases rpA_ints (m :: rest) r1
      obtain ⟨k1, k2⟩ := minL_spec rest m
      refine cr_min hc pins s σ H _ us Q I r ⟨p, m :: rest, rfl, by rw [hK]; exact h1, by simp, fun z hz hy => ?_⟩
      have ez : z = minL m rest := Int.le_antisymm (hy _ k1) (k2 z hz)
      rw [ez]
      exact hr.val sb (.int _)
    · exact hr.no.elim
  · exact hr.no.elim
theorem call_max_ev (hK : X.K = T.K) (hc : X.calm = true) : CallR X (biVal .max) (rBi T .max) := by
  intro pins s σ H xs us Q I r h
  obtain ⟨G, ds, sb, ha, hr⟩ := h
  unfold biD bMax at hr
  simp only at hr
  split at hr
  · obtain ⟨x, y, rfl, hx, hy⟩ := rda2 ha
    cases rdb_int hx; cases rdb_int hy
    exact call_max2 hc pins s σ H _ us Q I r ⟨_, _, rfl, hr.val sb (.int _)⟩
  · rename_i zs
    obtain ⟨x, rfl, hx⟩ := rda1 ha
    obtain ⟨p, vs, rfl, h1, r1⟩ := rdb_lst sb hx
    split at hr
    · rename_i m rest e
      cases IE e
      cases rpA_ints (m :: rest) r1
      obtain ⟨k1, k2⟩ := maxL_spec rest m
      refine cr_max hc pins s σ H _ us Q I r ⟨p, m :: rest, rfl, by rw [hK]; exact h1, by simp, fun z hz hy => ?_⟩
      have ez : z = maxL m rest := Int.le_antisymm (k2 z hz) (hy _ k1)
      rw [ez]
      exact hr.val sb (.int _)
    · exact hr.no.elim
  · exact hr.no.elim
theorem call_abs_ev : CallR X (biVal .abs) (rBi T .abs) := by
  intro pins s σ H xs us Q I r h
  obtain ⟨G, ds, sb, ha, hr⟩ := h
  unfold biD bAbs at hr
  simp only at hr
  split at hr
  · obtain ⟨x, rfl, hx⟩ := rda1 ha
    cases rdb_int hx
    exact call_abs pins s σ H _ us Q I r ⟨_, rfl, hr.val sb (.int _)⟩
  · exact hr.no.elim
theorem call_int_ev : CallR X (biVal .int) (rBi T .int) := by
  intro pins s σ H xs us Q I r h
  obtain ⟨G, ds, sb, ha, hr⟩ := h
  unfold biD bInt at hr
  simp only at hr
  split at hr
  · obtain ⟨x, rfl, hx⟩ := rda1 ha
    cases rdb_int hx
    exact call_int1 pins s σ H _ us Q I r (.inl ⟨_, rfl, hr.val sb (.int _)⟩)
  · obtain ⟨x, rfl, hx⟩ := rda1 ha
    cases rdb_bl hx
    exact call_int1 pins s σ H _ us Q I r (.inr ⟨_, rfl, hr.val sb (.int _)⟩)
  · exact hr.no.elim
theorem call_repr_ev (hK : X.K = T.K) (hu : X.A.units + 66 < cLine) (hg : X.A.guards = some []) (hrep : T.pr.rep = repD) : CallR X (biVal .repr) (rBi T .repr) := by
  intro pins s σ H xs us Q I r h
  obtain ⟨G, ds, sb, ha, hr⟩ := h
  unfold biD bRepr at hr
  simp only at hr
  split at hr
  · rename_i d
    obtain ⟨x, rfl, hx⟩ := rda1 ha
    obtain ⟨u, rfl, rx⟩ := vals1 r
    rw [hrep] at hr
    unfold repD at hr
    split at hr
    · rename_i hp
      rw [Bool.and_eq_true, Bool.and_eq_true, Bool.and_eq_true, decide_eq_true_eq] at hp
      obtain ⟨⟨⟨hsq, hpl⟩, hsh⟩, hsz⟩ := hp
      have dp := rdb_dp (n := 40) sb hx hpl
      rw [← hK] at dp
      obtain ⟨as, rd⟩ := Dp.reads I (py d) x u dp rx
      have hdep := (plain_py 40 d hpl).2
      have key : ∀ a, u = .ref a → wpAny (model X.prog X.w) X.A (call (.builtin "repr") [u]) (EP X pins σ Q) X.xe s := fun a e => by
        subst e
        exact PySem.repr_of_reads' rd hsh (fun z => by rw [plain_noDict 40 d hpl] at z; cases z) hg (by omega) (fun _ _ e => e)
          (fun h' t tk hk => ⟨.str _, H, I.kept hk, ⟨t, rfl⟩, hr.val sb (.str _)⟩) (by rw [← LIM_eq]; exact hsz)
      cases d with
      | tup zs =>
        obtain ⟨a, vs, rfl, _⟩ := rdb_tup sb hx
        exact key a rx
      | lst zs =>
        obtain ⟨a, vs, rfl, _⟩ := rdb_lst sb hx
        exact key a rx
      | _ => cases hsq
    · exact hr.no.elim
  · exact hr.no.elim
end
end Ev
end

section
set_option Elab.async false
set_option linter.all false
set_option maxRecDepth 100000
set_option maxHeartbeats 1000000
/-! EvE: expressions: what the evaluator tells of one is so. -/
namespace Ev
open PySem PySem.Spec L2

/-- a place in the text: the names, what may be asked of the rest -/
structure XOk (T : Tb) (W : WX) (X : Cx) : Prop where
  prog : X.prog = T.prog
  w : X.w = T.w
  K : X.K = T.K
  mg : X.mg = T.mg
  base : X.base = T.base
  calm : X.calm = true
  units : X.A.units + 66 < cLine
  guards : X.A.guards = some []
  takes : Takes X W
  rep : T.pr.rep = repD
abbrev Tb.ev (T : Tb) (p : Par) (E : Ev.E) : Ev.Env → R := Ev.ev p E
/-- an expression is as told -/
structure SE (T : Tb) (W : WX) (X : Cx) (p : Par) (e : Expr) (E : Ev.E) : Prop where
  pe : PE X e (TEv T W (ev p E))
  pt : PT X e (TTv T W (ev p E))
section
variable {T : Tb} {W : WX} {X : Cx} {p : Par} {G G1 H H1 : Hp} {ρ ρ1 : Ev.Env} {σ : L2.St} {e : Expr} {E A B : Ev.E} {Q : Rs → Ev.Env → V → Hp → Hp → Prop}

theorem tests_some {x : Rs} {b : Bool} (h : tests x ρ = some b) : ∃ d, rd x ρ = some d ∧ truD d = some b := by
  unfold tests at h
  cases e : rd x ρ with
  | none => rw [e] at h; cases h
  | some d => rw [e] at h; exact ⟨d, rfl, h⟩
/-- a value's truth -/
theorem pt_plain (O : XOk T W X) {f : Ev.Env → R} (h : PE X e (TEv T W f)) (he : ∀ whole, isTrue e X.env whole = (do let v ← whole; standAt e.pos; holding [v] (truthy v))) : PT X e (TTv T W f) := by
  refine ⟨fun pins s σ H Q I hw => ?_⟩
  obtain ⟨G, ρ, E, hr⟩ := hw
  refine PyProof.Rows.isTrue_plain (thn (h.run pins s σ H (fun v H1 => ∃ b, (∃ G' d, Sub G' H1 ∧ Rdb T.fa T.K G' H1 v d ∧ truD d = some b) ∧ Q b H1) I ⟨G, ρ, E, hr.mono fun x ρ' v G' H' g rk nk q => ?_⟩) fun v s1 ⟨x, H1, I1, r1, b, ⟨G', d, sb, hd, ht⟩, q1⟩ => ?_) (he _)
  · obtain ⟨b, hb, q⟩ := q
    obtain ⟨d, h1, h2⟩ := tests_some hb
    exact ⟨b, ⟨G', d, g.env.sub, rd_ok g.env rk h1, h2⟩, q⟩
  · exact tru_ev O.K pins s1 σ H1 x v Q I1 r1 ⟨G', d, b, sb, hd, ht, q1⟩
/-- two in a row -/
theorem two {k2 : Rs → Rs → Ev.Env → R} {Q2 : V → V → Hp → Prop} (E0 : T.Env G H ρ σ) (h : Run T W G H ρ σ ((ev p A ρ).b1 fun x ρ1 => (ev p B ρ1).b1 fun y ρ2 => k2 x y ρ2) Q)
    (m : ∀ x y ρ2 v u G2 H2, GoE T G H ρ σ G2 H2 ρ2 → ResOk T.fa T.K G2 H2 ρ2 σ v x → ResOk T.fa T.K G2 H2 ρ2 σ u y → single x = true → single y = true → Run T W G H ρ σ (k2 x y ρ2) Q → Q2 v u H2) :
    TEv T W (ev p A) σ H fun v H1 => TEv T W (ev p B) σ H1 fun u H2 => Q2 v u H2 := by
  refine ⟨G, ρ, E0, h.b1k.mono fun x ρ1 v G1 H1 g1 rk1 nk1 ⟨s1, h1⟩ => ⟨G1, ρ1, g1.env, (h1.b1k.from g1).mono fun y ρ2 u G2 H2 g2 rk2 nk2 ⟨s2, h2⟩ => ?_⟩⟩
  exact m x y ρ2 v u G2 H2 (g1.trans g2) (rk1.step g2.step g2.some) rk2 s1 s2 h2
/-- the end of what gives by value -/
theorem Run.endV {o : Option Rs} {Q : VK} (g : GoE T G H ρ σ G1 H1 ρ1) (h : Run T W G H ρ σ (ofOpt o ρ1) fun _ _ v _ H' => Q v H') : Ret T G1 H1 Q o := Run.ret g.env (h.from g)
theorem Run.okV {d : D} {Q : VK} {v : V} (g : GoE T G H ρ σ G1 H1 ρ1) (h : Run T W G H ρ σ (.ok (.fz d) ρ1) fun _ _ v _ H' => Q v H') (r : Rp T.fa T.K G1 v d) : Q v H1 := h v G1 H1 g r trivial

/-! ### constants, names -/
theorem s_int (O : XOk T W X) {i : Int} {j pos} : SE T W X p (.Constant (.int i) j pos) (.int i) := by
  have h : PE X (.Constant (.int i) j pos) (TEv T W (ev p (.int i))) := pe_int.imp fun σ H Q ⟨G, ρ, E, h⟩ => h (.int i) G H (GoE.refl E) (.int i) trivial
  exact ⟨h, pt_plain O h fun _ => rfl⟩
theorem s_bl (O : XOk T W X) {i : Bool} {j pos} : SE T W X p (.Constant (.bool i) j pos) (.bl i) := by
  have h : PE X (.Constant (.bool i) j pos) (TEv T W (ev p (.bl i))) := pe_bl.imp fun σ H Q ⟨G, ρ, E, h⟩ => h (.bl i) G H (GoE.refl E) (.bl i) trivial
  exact ⟨h, pt_plain O h fun _ => rfl⟩
theorem s_non (O : XOk T W X) {j pos} : SE T W X p (.Constant .none j pos) .non := by
  have h : PE X (.Constant .none j pos) (TEv T W (ev p .non)) := pe_non.imp fun σ H Q ⟨G, ρ, E, h⟩ => h .non G H (GoE.refl E) .non trivial
  exact ⟨h, pt_plain O h fun _ => rfl⟩
theorem s_str (O : XOk T W X) {x : Str} {j pos} : SE T W X p (.Constant (.str x) j pos) (.str x) := by
  have h : PE X (.Constant (.str x) j pos) (TEv T W (ev p (.str x))) := pe_str.imp fun σ H Q ⟨G, ρ, E, h⟩ => h (.str x) G H (GoE.refl E) (.str x) trivial
  exact ⟨h, pt_plain O h fun _ => rfl⟩
theorem named (E0 : T.Env G H ρ σ) {i : Nat} {s : Slot} (h : slot ρ i = some s) : ∃ v, σ[i]? = some (some v) ∧ (slot ρ i).isSome = true := by
  obtain ⟨v, hv, _⟩ := E0.val i s h
  exact ⟨v, hv, by rw [h]; rfl⟩
theorem s_var (O : XOk T W X) {i : Nat} {x : Str} {pos : Pos} (hN : X.N[i]? = some x) (hv : Vis X.env.scope x) (hd : (x == ("__debug__" : Str)) = false) (hcd : (x == ("__classdict__" : Str)) = false) : SE T W X p (.Name x pos) (.var i) := by
  have h : PE X (.Name x pos) (TEv T W (ev p (.var i))) := (pe_var hN hv hd hcd).imp fun σ H Q ⟨G, ρ, E, h⟩ => by
    unfold ev at h
    cases e : slot ρ i with
    | none => rw [e] at h; exact h.elim
    | some s =>
      rw [e] at h
      obtain ⟨v, h1, h2⟩ := named E e
      exact ⟨v, h1, h v G H (GoE.refl E) ⟨h1, h2⟩ trivial⟩
  exact ⟨h, pt_plain O h fun _ => rfl⟩
theorem s_bor (O : XOk T W X) {i : Nat} {x : Str} {pos : Pos} (hN : X.N[i]? = some x) (hv : Vis X.env.scope x) (hd : (x == ("__debug__" : Str)) = false) (hcd : (x == ("__classdict__" : Str)) = false) : SE T W X p (.Name x pos) (.bor i) := by
  have h : PE X (.Name x pos) (TEv T W (ev p (.bor i))) := (pe_var hN hv hd hcd).imp fun σ H Q ⟨G, ρ, E, h⟩ => by
    unfold ev at h
    cases e : slot ρ i with
    | none => rw [e] at h; exact h.elim
    | some s =>
      rw [e] at h
      obtain ⟨v, h1, h2⟩ := named E e
      exact ⟨v, h1, h v G H (GoE.refl E) ⟨h1, h2⟩ trivial⟩
  exact ⟨h, pt_plain O h fun _ => rfl⟩
theorem s_lend (O : XOk T W X) {i : Nat} {x : Str} {pos : Pos} (hN : X.N[i]? = some x) (hv : Vis X.env.scope x) (hd : (x == ("__debug__" : Str)) = false) (hcd : (x == ("__classdict__" : Str)) = false) : SE T W X p (.Name x pos) (.lend i) := by
  have h : PE X (.Name x pos) (TEv T W (ev p (.lend i))) := (pe_var hN hv hd hcd).imp fun σ H Q ⟨G, ρ, E, h⟩ => by
    unfold ev at h
    cases e : slot ρ i with
    | none => rw [e] at h; exact h.elim
    | some s =>
      rw [e] at h
      obtain ⟨v, h1, h2⟩ := named E e
      exact ⟨v, h1, h v G H (GoE.refl E) ⟨h1, h2⟩ trivial⟩
  exact ⟨h, pt_plain O h fun _ => rfl⟩
theorem s_glob (O : XOk T W X) {i : Nat} {x : Str} {pos : Pos} {v : V} {u : Value} {d : D} (hg : Gl X x) (hm : X.mg x = some u) (r : RelV v u) (hd : (x == ("__debug__" : Str)) = false) (hi : p.glob[i]? = some d) (hv : Rp T.fa T.K T.G0 v d) : SE T W X p (.Name x pos) (.glob i) := by
  have h : PE X (.Name x pos) (TEv T W (ev p (.glob i))) := (pe_glob hg hm r hd).imp fun σ H Q ⟨G, ρ, E, h⟩ => by
    unfold ev at h
    rw [hi] at h
    exact h v G H (GoE.refl E) (hv.mono E.low) trivial
  exact ⟨h, pt_plain O h fun _ => rfl⟩

/-! ### operators -/
theorem s_bin (O : XOk T W X) {o : Bop} {a b : Expr} {pos : Pos} (ha : SE T W X p a A) (hb : SE T W X p b B) : SE T W X p (.BinOp a (bopOf o) b pos) (.bin o A B) := by
  have h : PE X (.BinOp a (bopOf o) b pos) (TEv T W (ev p (.bin o A B))) := (pe_op (op_bin O.K o) ha.pe hb.pe).imp fun σ H Q ⟨G, ρ, E, h⟩ => by
    refine two (k2 := fun x y ρ2 => match rd x ρ2, rd y ρ2 with | some dx, some dy => ofOpt (binD o dx dy) ρ2 | _, _ => .no) E h fun x y ρ2 v u G2 H2 g r1 r2 _ _ h2 => ?_
    cases e1 : rd x ρ2 with
    | none => rw [e1] at h2; exact h2.elim
    | some dx =>
      cases e2 : rd y ρ2 with
      | none => rw [e1, e2] at h2; exact h2.elim
      | some dy =>
        rw [e1, e2] at h2
        exact ⟨G2, dx, dy, g.env.sub, rd_ok g.env r1 e1, rd_ok g.env r2 e2, Run.endV g h2⟩
  exact ⟨h, pt_plain O h fun _ => rfl⟩
theorem s_neg (O : XOk T W X) {a : Expr} {pos : Pos} (ha : SE T W X p a A) : SE T W X p (.UnaryOp .USub a pos) (.neg A) := by
  have h : PE X (.UnaryOp .USub a pos) (TEv T W (ev p (.neg A))) := (pe_un un_neg ha.pe).imp fun σ H Q ⟨G, ρ, E, h⟩ => by
    refine ⟨G, ρ, E, (Run.b1k h).mono fun x ρ1 v G1 H1 g rk nk ⟨_, h1⟩ => ?_⟩
    cases e : rd x ρ1 with
    | none => rw [e] at h1; exact h1.elim
    | some d =>
      rw [e] at h1
      cases d with
      | int i =>
        cases rdb_int (rd_ok g.env rk e)
        exact ⟨i, rfl, Run.okV g h1 (.int _)⟩
      | _ => exact h1.elim
  exact ⟨h, pt_plain O h fun _ => rfl⟩
theorem s_not (O : XOk T W X) {a : Expr} {pos : Pos} (ha : SE T W X p a A) : SE T W X p (.UnaryOp .Not a pos) (.not A) := by
  refine ⟨⟨fun pins s σ H Q I hw => ?_⟩, ?_⟩
  · obtain ⟨G, ρ, E, h⟩ := hw
    refine PyProof.Rows.UnaryOp_ (thn (ha.pe.run pins s σ H (fun v H1 => ∃ b, (∃ G' d, Sub G' H1 ∧ Rdb T.fa T.K G' H1 v d ∧ truD d = some b) ∧ Q (.bl (!b)) H1) I ⟨G, ρ, E, (Run.b1k h).mono fun x ρ1 v G1 H1 g rk nk ⟨_, h1⟩ => ?_⟩) fun v s1 ⟨x, H1, I1, r1, b, ⟨G', d, sb, hd, ht⟩, q1⟩ => ?_)
    · cases e : tests x ρ1 with
      | none => rw [e] at h1; exact h1.elim
      | some b =>
        rw [e] at h1
        obtain ⟨d, k1, k2⟩ := tests_some e
        exact ⟨b, ⟨G1, d, g.env.sub, rd_ok g.env rk k1, k2⟩, Run.okV g h1 (.bl _)⟩
    · exact PyProof.Rows.not_of (thn (tru_ev O.K pins s1 σ H1 x v _ I1 r1 ⟨G', d, b, sb, hd, ht, q1⟩) fun c s2 ⟨H2, I2, q2⟩ => ⟨.bl (!c), H2, I2, rfl, q2⟩)
  · refine (pt_not ha.pt).imp fun σ H Q ⟨G, ρ, E, h⟩ => ⟨G, ρ, E, (Run.b1k h).mono fun x ρ1 v G1 H1 g rk nk ⟨_, h1⟩ => ?_⟩
    cases e : tests x ρ1 with
    | none => rw [e] at h1; exact h1.elim
    | some b =>
      rw [e] at h1
      obtain ⟨b', hb, q⟩ := h1 (.bl (!b)) G1 H1 g (.bl _) trivial
      cases hb
      exact ⟨b, rfl, q⟩
end
end Ev
end

section
set_option Elab.async false
set_option linter.all false
set_option maxRecDepth 100000
set_option maxHeartbeats 1000000
/-! EvF: comparisons, and, or, if; lists of expressions. -/
namespace Ev
open PySem PySem.Spec L2

section
variable {T : Tb} {W : WX} {X : Cx} {p : Par} {G G1 G2 H H1 H2 : Hp} {ρ ρ1 ρ2 : Ev.Env} {σ : L2.St} {e a b : Expr} {E A B C D' F' : Ev.E} {Q : Rs → Ev.Env → V → Hp → Hp → Prop} {pins : List (Addr × Obj)} {s : Shared} {pos : Pos}

/-- one step, from the middle -/
theorem SE.go {k : Rs → Ev.Env → R} (h : SE T W X p e B) (g : GoE T G H ρ σ G1 H1 ρ1) (I : Inv X pins σ H1 s) (hr : Run T W G H ρ σ ((ev p B ρ1).b1 k) Q) :
    wpAny (model X.prog X.w) X.A (eval e X.env) (fun v s2 => ∃ vv H2 G2 ρ2 y, Inv X pins σ H2 s2 ∧ RelV vv v ∧ GoE T G1 H1 ρ1 σ G2 H2 ρ2 ∧ ResOk T.fa T.K G2 H2 ρ2 σ vv y ∧ NewOk H1 vv y ∧ single y = true ∧ Run T W G H ρ σ (k y ρ2) Q) X.xe s := by
  refine thn (h.pe.run pins s σ H1 (fun vv H2 => ∃ G2 ρ2 y, GoE T G1 H1 ρ1 σ G2 H2 ρ2 ∧ ResOk T.fa T.K G2 H2 ρ2 σ vv y ∧ NewOk H1 vv y ∧ single y = true ∧ Run T W G H ρ σ (k y ρ2) Q) I ⟨G1, ρ1, g.env, (hr.b1k.from g).mono fun y ρ2 vv G2 H2 g2 rk nk ⟨sg, h2⟩ => ⟨G2, ρ2, y, g2, rk, nk, sg, h2⟩⟩) fun v s2 ⟨vv, H2, I2, r2, G2, ρ2, y, g2, rk, nk, sg, h2⟩ => ?_
  exact ⟨vv, H2, G2, ρ2, y, I2, r2, g2, rk, nk, sg, h2⟩
/-- a comparison of what was read -/
theorem cmp_go (O : XOk T W X) {o : Cop} {x y : Rs} {v u : V} {va ua : Value} {dx dy : Ev.D} {c : Bool} {P : Value → Shared → Prop} (I : Inv X pins σ H s) (E0 : T.Env G H ρ σ) (rx : ResOk T.fa T.K G H ρ σ v x) (ry : ResOk T.fa T.K G H ρ σ u y) (hv : RelV v va) (hu : RelV u ua)
    (e1 : rd x ρ = some dx) (e2 : rd y ρ = some dy) (e3 : cmpD o dx dy = some c) (h : ∀ s3, Inv X pins σ H s3 → P (.bool c) s3) : wpAny (model X.prog X.w) X.A (compareOp (copOf o) va ua) P X.xe s := by
  refine thn (op_cmp O.K O.units o pins s σ H v u va ua (fun z H3 => z = .bl c ∧ H3 = H) I hv hu ⟨G, dx, dy, c, E0.sub, rd_ok E0 rx e1, rd_ok E0 ry e2, e3, rfl, rfl⟩) fun w s3 ⟨z, H3, I3, r3, ez, eh⟩ => ?_
  subst ez eh
  cases r3
  exact h s3 I3
theorem cmp_some {x y : Rs} {k : Bool → R} {o : Cop} (h : Run T W G H ρ σ (match rd x ρ1, rd y ρ1 with | some dx, some dy => (match cmpD o dx dy with | some c => k c | none => .no) | _, _ => .no) Q) :
    ∃ dx dy c, rd x ρ1 = some dx ∧ rd y ρ1 = some dy ∧ cmpD o dx dy = some c ∧ Run T W G H ρ σ (k c) Q := by
  cases e1 : rd x ρ1 with
  | none => rw [e1] at h; exact h.elim
  | some dx =>
    cases e2 : rd y ρ1 with
    | none => rw [e1, e2] at h; exact h.elim
    | some dy =>
      rw [e1, e2] at h
      cases e3 : cmpD o dx dy with
      | none => simp only [e3] at h; exact h.elim
      | some c => simp only [e3] at h; exact ⟨dx, dy, c, rfl, rfl, e3, h⟩
/-- a bool, at the end -/
theorem bool_end {c : Bool} {Q' : VK} (g : GoE T G H ρ σ G1 H1 ρ1) (I : Inv X pins σ H1 s) (h : Run T W G H ρ σ (.ok (.fz (.bl c)) ρ1) fun _ _ v _ H' => Q' v H') : EP X pins σ Q' (.bool c) s := ⟨.bl c, H1, I, rfl, h (.bl c) G1 H1 g (.bl c) trivial⟩
theorem bool_endT {c : Bool} {Q' : Bool → Hp → Prop} (g : GoE T G H ρ σ G1 H1 ρ1) (I : Inv X pins σ H1 s) (h : Run T W G H ρ σ (.ok (.fz (.bl c)) ρ1) fun x ρ' _ _ H' => ∃ b, tests x ρ' = some b ∧ Q' b H') : TP X pins σ Q' c s := by
  obtain ⟨b, hb, q⟩ := h (.bl c) G1 H1 g (.bl c) trivial
  cases hb
  exact ⟨H1, I, q⟩

theorem s_cmp1 (O : XOk T W X) {o : Cop} (ha : SE T W X p a A) (hb : SE T W X p b B) (hm : behindInMarks (copOf o) b = false) : SE T W X p (.Compare a [copOf o] [b] pos) (.cmp A (.link o B .nil)) := by
  refine ⟨⟨fun pins s σ H Q I hw => ?_⟩, ⟨fun pins s σ H Q I hw => ?_⟩⟩
  · obtain ⟨G, ρ, E, h⟩ := hw
    unfold ev at h
    refine wpAny_Compare1 (thn (ha.go (GoE.refl E) I h) fun v s1 ⟨vv, H1, G1, ρ1, x, I1, r1, g1, rk1, _, _, h1⟩ => ?_) hm
    refine thn (hb.go g1 I1 h1) fun u s2 ⟨uu, H2, G2, ρ2, y, I2, r2, g2, rk2, _, _, h2⟩ => ?_
    obtain ⟨dx, dy, c, e1, e2, e3, h3⟩ := cmp_some h2
    exact cmp_go O I2 g2.env (rk1.step g2.step g2.some) rk2 r1 r2 e1 e2 e3 fun s3 I3 => bool_end (g1.trans g2) I3 h3
  · obtain ⟨G, ρ, E, h⟩ := hw
    unfold ev at h
    refine wpAny_isTrue_Compare1 (thn (ha.go (GoE.refl E) I h) fun v s1 ⟨vv, H1, G1, ρ1, x, I1, r1, g1, rk1, _, _, h1⟩ => ?_) hm
    refine thn (hb.go g1 I1 h1) fun u s2 ⟨uu, H2, G2, ρ2, y, I2, r2, g2, rk2, _, _, h2⟩ => ?_
    obtain ⟨dx, dy, c, e1, e2, e3, h3⟩ := cmp_some h2
    exact cmp_go O I2 g2.env (rk1.step g2.step g2.some) rk2 r1 r2 e1 e2 e3 fun s3 I3 => wpAny_truthy_bool (bool_endT (g1.trans g2) I3 h3)
theorem s_cmp2 (O : XOk T W X) {o o2 : Cop} {c : Expr} (ha : SE T W X p a A) (hb : SE T W X p b B) (hc : SE T W X p c C) (hm : behindInMarks (copOf o2) c = false) : SE T W X p (.Compare a [copOf o, copOf o2] [b, c] pos) (.cmp A (.link o B (.link o2 C .nil))) := by
  refine ⟨⟨fun pins s σ H Q I hw => ?_⟩, ⟨fun pins s σ H Q I hw => ?_⟩⟩
  · obtain ⟨G, ρ, E, h⟩ := hw
    unfold ev at h
    refine PyProof.Rows.Compare_chain (thn (ha.go (GoE.refl E) I h) fun v s1 ⟨vv, H1, G1, ρ1, x, I1, r1, g1, rk1, _, _, h1⟩ => PyProof.Rows.chain_link ?_) hm
    refine thn (hb.go g1 I1 h1) fun u s2 ⟨uu, H2, G2, ρ2, y, I2, r2, g2, rk2, _, _, h2⟩ => ?_
    obtain ⟨dx, dy, k, e1, e2, e3, h3⟩ := cmp_some h2
    refine cmp_go O I2 g2.env (rk1.step g2.step g2.some) rk2 r1 r2 e1 e2 e3 fun s3 I3 => wpAny_truthy_bool ?_
    cases k with
    | false => exact PyProof.Rows.ite_ff (bool_end (g1.trans g2) I3 h3)
    | true =>
      refine PyProof.Rows.ite_tt (PyProof.Rows.chain_last ?_)
      simp only [if_true] at h3
      refine thn (hc.go (g1.trans g2) I3 h3) fun w s4 ⟨ww, H4, G4, ρ4, z, I4, r4, g4, rk4, _, _, h4⟩ => ?_
      obtain ⟨dy', dz, k2, e4, e5, e6, h5⟩ := cmp_some h4
      exact cmp_go O I4 g4.env (rk2.step g4.step g4.some) rk4 r2 r4 e4 e5 e6 fun s5 I5 => bool_end ((g1.trans g2).trans g4) I5 h5
  · obtain ⟨G, ρ, E, h⟩ := hw
    unfold ev at h
    refine PyProof.Rows.isTrue_chain (thn (ha.go (GoE.refl E) I h) fun v s1 ⟨vv, H1, G1, ρ1, x, I1, r1, g1, rk1, _, _, h1⟩ => PyProof.Rows.test_link ?_) hm
    refine thn (hb.go g1 I1 h1) fun u s2 ⟨uu, H2, G2, ρ2, y, I2, r2, g2, rk2, _, _, h2⟩ => ?_
    obtain ⟨dx, dy, k, e1, e2, e3, h3⟩ := cmp_some h2
    refine cmp_go O I2 g2.env (rk1.step g2.step g2.some) rk2 r1 r2 e1 e2 e3 fun s3 I3 => wpAny_truthy_bool ?_
    cases k with
    | false => exact PyProof.Rows.ite_ff (bool_endT (g1.trans g2) I3 h3)
    | true =>
      refine PyProof.Rows.ite_tt (PyProof.Rows.test_last ?_)
      simp only [if_true] at h3
      refine thn (hc.go (g1.trans g2) I3 h3) fun w s4 ⟨ww, H4, G4, ρ4, z, I4, r4, g4, rk4, _, _, h4⟩ => ?_
      obtain ⟨dy', dz, k2, e4, e5, e6, h5⟩ := cmp_some h4
      exact cmp_go O I4 g4.env (rk2.step g4.step g4.some) rk4 r2 r4 e4 e5 e6 fun s5 I5 => wpAny_truthy_bool (bool_endT ((g1.trans g2).trans g4) I5 h5)
theorem s_cmp3 (O : XOk T W X) {o o2 o3 : Cop} {c d : Expr} (ha : SE T W X p a A) (hb : SE T W X p b B) (hc : SE T W X p c C) (hd : SE T W X p d D') (hm : behindInMarks (copOf o3) d = false) : SE T W X p (.Compare a [copOf o, copOf o2, copOf o3] [b, c, d] pos) (.cmp A (.link o B (.link o2 C (.link o3 D' .nil)))) := by
  refine ⟨⟨fun pins s σ H Q I hw => ?_⟩, ⟨fun pins s σ H Q I hw => ?_⟩⟩
  · obtain ⟨G, ρ, E, h⟩ := hw
    unfold ev at h
    refine PyProof.Rows.Compare_chain (thn (ha.go (GoE.refl E) I h) fun v s1 ⟨vv, H1, G1, ρ1, x, I1, r1, g1, rk1, _, _, h1⟩ => PyProof.Rows.chain_link ?_) hm
    refine thn (hb.go g1 I1 h1) fun u s2 ⟨uu, H2, G2, ρ2, y, I2, r2, g2, rk2, _, _, h2⟩ => ?_
    obtain ⟨dx, dy, k, e1, e2, e3, h3⟩ := cmp_some h2
    refine cmp_go O I2 g2.env (rk1.step g2.step g2.some) rk2 r1 r2 e1 e2 e3 fun s3 I3 => wpAny_truthy_bool ?_
    cases k with
    | false => exact PyProof.Rows.ite_ff (bool_end (g1.trans g2) I3 h3)
    | true =>
      refine PyProof.Rows.ite_tt (PyProof.Rows.chain_link ?_)
      simp only [if_true] at h3
      refine thn (hc.go (g1.trans g2) I3 h3) fun w s4 ⟨ww, H4, G4, ρ4, z, I4, r4, g4, rk4, _, _, h4⟩ => ?_
      obtain ⟨dy', dz, k2, e4, e5, e6, h5⟩ := cmp_some h4
      refine cmp_go O I4 g4.env (rk2.step g4.step g4.some) rk4 r2 r4 e4 e5 e6 fun s5 I5 => wpAny_truthy_bool ?_
      cases k2 with
      | false => exact PyProof.Rows.ite_ff (bool_end ((g1.trans g2).trans g4) I5 h5)
      | true =>
        refine PyProof.Rows.ite_tt (PyProof.Rows.chain_last ?_)
        simp only [if_true] at h5
        refine thn (hd.go ((g1.trans g2).trans g4) I5 h5) fun w' s6 ⟨ww', H6, G6, ρ6, z', I6, r6, g6, rk6, _, _, h6⟩ => ?_
        obtain ⟨dz', dz3, k3, e7, e8, e9, h7⟩ := cmp_some h6
        exact cmp_go O I6 g6.env (rk4.step g6.step g6.some) rk6 r4 r6 e7 e8 e9 fun s7 I7 => bool_end (((g1.trans g2).trans g4).trans g6) I7 h7
  · obtain ⟨G, ρ, E, h⟩ := hw
    unfold ev at h
    refine PyProof.Rows.isTrue_chain (thn (ha.go (GoE.refl E) I h) fun v s1 ⟨vv, H1, G1, ρ1, x, I1, r1, g1, rk1, _, _, h1⟩ => PyProof.Rows.test_link ?_) hm
    refine thn (hb.go g1 I1 h1) fun u s2 ⟨uu, H2, G2, ρ2, y, I2, r2, g2, rk2, _, _, h2⟩ => ?_
    obtain ⟨dx, dy, k, e1, e2, e3, h3⟩ := cmp_some h2
    refine cmp_go O I2 g2.env (rk1.step g2.step g2.some) rk2 r1 r2 e1 e2 e3 fun s3 I3 => wpAny_truthy_bool ?_
    cases k with
    | false => exact PyProof.Rows.ite_ff (bool_endT (g1.trans g2) I3 h3)
    | true =>
      refine PyProof.Rows.ite_tt (PyProof.Rows.test_link ?_)
      simp only [if_true] at h3
      refine thn (hc.go (g1.trans g2) I3 h3) fun w s4 ⟨ww, H4, G4, ρ4, z, I4, r4, g4, rk4, _, _, h4⟩ => ?_
      obtain ⟨dy', dz, k2, e4, e5, e6, h5⟩ := cmp_some h4
      refine cmp_go O I4 g4.env (rk2.step g4.step g4.some) rk4 r2 r4 e4 e5 e6 fun s5 I5 => wpAny_truthy_bool ?_
      cases k2 with
      | false => exact PyProof.Rows.ite_ff (bool_endT ((g1.trans g2).trans g4) I5 h5)
      | true =>
        refine PyProof.Rows.ite_tt (PyProof.Rows.test_last ?_)
        simp only [if_true] at h5
        refine thn (hd.go ((g1.trans g2).trans g4) I5 h5) fun w' s6 ⟨ww', H6, G6, ρ6, z', I6, r6, g6, rk6, _, _, h6⟩ => ?_
        obtain ⟨dz', dz3, k3, e7, e8, e9, h7⟩ := cmp_some h6
        exact cmp_go O I6 g6.env (rk4.step g6.step g6.some) rk6 r4 r6 e7 e8 e9 fun s7 I7 => wpAny_truthy_bool (bool_endT (((g1.trans g2).trans g4).trans g6) I7 h7)

/-! ### truth of what was read; and, or, if -/
theorem tru_go (O : XOk T W X) {x : Rs} {v : V} {va : Value} {c : Bool} {P : Bool → Shared → Prop} (I : Inv X pins σ H s) (E0 : T.Env G H ρ σ) (rx : ResOk T.fa T.K G H ρ σ v x) (hv : RelV v va) (e : tests x ρ = some c) (h : ∀ s3, Inv X pins σ H s3 → P c s3) :
    wpAny (model X.prog X.w) X.A (truthy va) P X.xe s := by
  obtain ⟨d, k1, k2⟩ := tests_some e
  refine thn (tru_ev O.K pins s σ H v va (fun b H3 => b = c ∧ H3 = H) I hv ⟨G, d, c, E0.sub, rd_ok E0 rx k1, k2, rfl, rfl⟩) fun b s3 ⟨H3, I3, eb, eh⟩ => ?_
  subst eb eh
  exact h s3 I3
/-- a test, from the middle -/
theorem SE.goT {k : Rs → Ev.Env → R} (h : SE T W X p e B) (g : GoE T G H ρ σ G1 H1 ρ1) (I : Inv X pins σ H1 s) {Q : Rs → Ev.Env → V → Hp → Hp → Prop}
    (hr : Run T W G H ρ σ ((ev p B ρ1).b1 k) Q) (ht : ∀ x ρ2, tests x ρ2 = none → ¬ Run T W G H ρ σ (k x ρ2) Q) :
    wpAny (model X.prog X.w) X.A (isTrue e X.env (eval e X.env)) (fun c s2 => ∃ vv H2 G2 ρ2 y, Inv X pins σ H2 s2 ∧ GoE T G1 H1 ρ1 σ G2 H2 ρ2 ∧ ResOk T.fa T.K G2 H2 ρ2 σ vv y ∧ NewOk H1 vv y ∧ tests y ρ2 = some c ∧ Run T W G H ρ σ (k y ρ2) Q) X.xe s := by
  refine thn (h.pt.run pins s σ H1 (fun c H2 => ∃ vv G2 ρ2 y, GoE T G1 H1 ρ1 σ G2 H2 ρ2 ∧ ResOk T.fa T.K G2 H2 ρ2 σ vv y ∧ NewOk H1 vv y ∧ tests y ρ2 = some c ∧ Run T W G H ρ σ (k y ρ2) Q) I ⟨G1, ρ1, g.env, (hr.b1k.from g).mono fun y ρ2 vv G2 H2 g2 rk nk ⟨_, h2⟩ => ?_⟩) fun c s2 ⟨H2, I2, vv, G2, ρ2, y, g2, rk, nk, ht, h2⟩ => ⟨vv, H2, G2, ρ2, y, I2, g2, rk, nk, ht, h2⟩
  cases e : tests y ρ2 with
  | none => exact (ht y ρ2 e h2).elim
  | some c => exact ⟨c, rfl, vv, G2, ρ2, y, g2, rk, nk, e, h2⟩
/-- what stands behind: the same expression, read from here -/
theorem SE.fin {Q' : VK} (h : SE T W X p e B) (g : GoE T G H ρ σ G1 H1 ρ1) (I : Inv X pins σ H1 s) (hr : Run T W G H ρ σ (ev p B ρ1) fun _ _ v _ H' => Q' v H') : wpAny (model X.prog X.w) X.A (eval e X.env) (EP X pins σ Q') X.xe s :=
  h.pe.run pins s σ H1 Q' I ⟨G1, ρ1, g.env, hr.from g⟩
theorem SE.finT {Q' : Bool → Hp → Prop} (h : SE T W X p e B) (g : GoE T G H ρ σ G1 H1 ρ1) (I : Inv X pins σ H1 s) (hr : Run T W G H ρ σ (ev p B ρ1) fun x ρ' _ _ H' => ∃ b, tests x ρ' = some b ∧ Q' b H') : wpAny (model X.prog X.w) X.A (isTrue e X.env (eval e X.env)) (TP X pins σ Q') X.xe s :=
  h.pt.run pins s σ H1 Q' I ⟨G1, ρ1, g.env, hr.from g⟩
theorem isTrue_bool (op : BoolOp) (vs : List Expr) (env : PySem.Env) (w1 w2 : Sem Value) : isTrue (.BoolOp op vs pos) env w1 = isTrue (.BoolOp op vs pos) env w2 := rfl
theorem s_and (O : XOk T W X) {rest : List Expr} (ha : SE T W X p a A) (hb : SE T W X p (.BoolOp .And (b :: rest) pos) B) : SE T W X p (.BoolOp .And (a :: b :: rest) pos) (.and A B) := by
  refine ⟨⟨fun pins s σ H Q I hw => ?_⟩, ⟨fun pins s σ H Q I hw => ?_⟩⟩
  · obtain ⟨G, ρ, E, h⟩ := hw
    unfold ev at h
    refine PyProof.Rows.BoolOp_and (thn (ha.go (GoE.refl E) I h) fun v s1 ⟨vv, H1, G1, ρ1, x, I1, r1, g1, rk1, nk1, _, h1⟩ => ?_)
    cases e : tests x ρ1 with
    | none => rw [e] at h1; exact h1.elim
    | some c =>
      rw [e] at h1
      refine tru_go O I1 g1.env rk1 r1 e fun s3 I3 => ?_
      cases c with
      | true => exact hb.fin g1 I3 h1
      | false => exact ⟨vv, H1, I3, r1, h1 vv G1 H1 g1 rk1 nk1⟩
  · obtain ⟨G, ρ, E, h⟩ := hw
    unfold ev at h
    refine PyProof.Rows.isTrue_and (thn (ha.goT (GoE.refl E) I h fun x ρ2 e z => by rw [e] at z; exact z) fun c s1 ⟨vv, H1, G1, ρ1, x, I1, g1, rk1, nk1, e, h1⟩ => ?_)
    rw [e] at h1
    cases c with
    | true =>
      rw [if_pos rfl]
      exact hb.finT g1 I1 h1
    | false =>
      obtain ⟨b, hb2, q⟩ := h1 vv G1 H1 g1 rk1 nk1
      rw [e] at hb2
      cases hb2
      exact ⟨H1, I1, q⟩
theorem s_or (O : XOk T W X) {rest : List Expr} (ha : SE T W X p a A) (hb : SE T W X p (.BoolOp .Or (b :: rest) pos) B) : SE T W X p (.BoolOp .Or (a :: b :: rest) pos) (.or A B) := by
  refine ⟨⟨fun pins s σ H Q I hw => ?_⟩, ⟨fun pins s σ H Q I hw => ?_⟩⟩
  · obtain ⟨G, ρ, E, h⟩ := hw
    unfold ev at h
    refine PyProof.Rows.BoolOp_or (thn (ha.go (GoE.refl E) I h) fun v s1 ⟨vv, H1, G1, ρ1, x, I1, r1, g1, rk1, nk1, _, h1⟩ => ?_)
    cases e : tests x ρ1 with
    | none => rw [e] at h1; exact h1.elim
    | some c =>
      rw [e] at h1
      refine tru_go O I1 g1.env rk1 r1 e fun s3 I3 => ?_
      cases c with
      | false => exact hb.fin g1 I3 h1
      | true => exact ⟨vv, H1, I3, r1, h1 vv G1 H1 g1 rk1 nk1⟩
  · obtain ⟨G, ρ, E, h⟩ := hw
    unfold ev at h
    refine PyProof.Rows.isTrue_or (thn (ha.goT (GoE.refl E) I h fun x ρ2 e z => by rw [e] at z; exact z) fun c s1 ⟨vv, H1, G1, ρ1, x, I1, g1, rk1, nk1, e, h1⟩ => ?_)
    rw [e] at h1
    cases c with
    | false =>
      rw [if_neg Bool.false_ne_true]
      exact hb.finT g1 I1 h1
    | true =>
      obtain ⟨b, hb2, q⟩ := h1 vv G1 H1 g1 rk1 nk1
      rw [e] at hb2
      cases hb2
      exact ⟨H1, I1, q⟩
theorem s_one {op : BoolOp} (ha : SE T W X p a A) : SE T W X p (.BoolOp op [a] pos) A := by
  refine ⟨pe_one ha.pe, ?_⟩
  cases op with
  | And => exact (pw_and1 ha.pt).pt
  | Or => exact (pw_or1 ha.pt).pt
theorem s_ite (O : XOk T W X) {c : Expr} (hc : SE T W X p c C) (ha : SE T W X p a A) (hb : SE T W X p b B) : SE T W X p (.IfExp c a b pos) (.ite C A B) := by
  refine ⟨⟨fun pins s σ H Q I hw => ?_⟩, ⟨fun pins s σ H Q I hw => ?_⟩⟩
  · obtain ⟨G, ρ, E, h⟩ := hw
    unfold ev at h
    refine PyProof.Rows.IfExp_ (thn (hc.goT (GoE.refl E) I h fun x ρ2 e z => by rw [e] at z; exact z) fun c s1 ⟨vv, H1, G1, ρ1, x, I1, g1, rk1, nk1, e, h1⟩ => ?_)
    rw [e] at h1
    cases c with
    | true => exact ha.fin g1 I1 h1
    | false => exact hb.fin g1 I1 h1
  · obtain ⟨G, ρ, E, h⟩ := hw
    unfold ev at h
    refine PyProof.Rows.isTrue_IfExp (thn (hc.goT (GoE.refl E) I h fun x ρ2 e z => by rw [e] at z; exact z) fun c s1 ⟨vv, H1, G1, ρ1, x, I1, g1, rk1, nk1, e, h1⟩ => ?_)
    rw [e] at h1
    cases c with
    | true => exact ha.finT g1 I1 h1
    | false => exact hb.finT g1 I1 h1
end
end Ev
end

section
set_option Elab.async false
set_option linter.all false
set_option maxRecDepth 100000
set_option maxHeartbeats 1000000
/-! EvG: lists of expressions, displays, items, parts, built-in calls. -/
namespace Ev
open PySem PySem.Spec L2

section
variable {T : Tb} {W : WX} {X : Cx} {p : Par} {G G1 G2 H H1 H2 : Hp} {ρ ρ1 ρ2 : Ev.Env} {σ : L2.St} {e a b : Expr} {es : List Expr} {E A B C : Ev.E} {Q : Rs → Ev.Env → V → Hp → Hp → Prop} {QL : List Rs → Ev.Env → List V → Hp → Hp → Prop} {pins : List (Addr × Obj)} {s : Shared} {pos : Pos}

/-! ### to keep, from the start -/
theorem Step.transN {L1 L2' L3 N : Addr → Prop} {G1 H1 G2 H2 G3 H3 : Hp} (a : Step L1 L2' G1 H1 G2 H2) (b : Step N L3 G2 H2 G3 H3) (h : ∀ x, N x → L2' x ∨ H1 x = none) : Step L1 L3 G1 H1 G3 H3 where
  mono := a.mono.trans b.mono
  keep := fun x q n l => by
    obtain ⟨e1, e2, e3⟩ := a.keep x q n l
    have nn : ¬ N x := fun z => (h x z).elim e3 q
    rcases e2 with e2 | e2
    · obtain ⟨f1, f2, f3⟩ := b.keep x (a.dom x q) e2 nn
      exact ⟨f1.trans e1, by rw [e1] at f2; exact f2, f3⟩
    · obtain ⟨xs, e2⟩ := e2
      obtain ⟨f1, f3⟩ := b.still x xs (e1.trans e2) nn
      exact ⟨f1.trans e1, .inr ⟨xs, e2⟩, f3⟩
  dom := fun x q => b.dom x (a.dom x q)
  still := fun x xs q l => by
    obtain ⟨e1, e2⟩ := a.still x xs q l
    have nn : ¬ N x := fun z => (h x z).elim e2 fun w => by rw [q] at w; cases w
    obtain ⟨f1, f2⟩ := b.still x xs (e1.trans q) nn
    exact ⟨f1.trans e1, f2⟩
theorem keepAll (g : GoE T G H ρ σ G1 H1 ρ1) {vs : List V} {l : List Rs} {ds : List Ev.D} (r : RsA T.fa T.K G1 H1 ρ1 σ vs l) (n : NewAll H vs l) (e : tkAll l ρ1 = some (ds, ρ2)) :
    ∃ G2, GoE T G H ρ σ G2 H1 ρ2 ∧ RpA T.fa T.K G2 vs ds ∧ Sub G1 G2 := by
  obtain ⟨G2, E2, S2, R2, F2, I2⟩ := tkAll_ok g.env r e
  exact ⟨G2, ⟨⟨E2, g.step.transN S2 fun x z => z.imp id fun w => n x w, g.fix.trans F2⟩, fun i h => I2 i (g.some i h)⟩, R2, S2.mono⟩
theorem keep1 (g : GoE T G H ρ σ G1 H1 ρ1) {v : V} {x : Rs} {d : Ev.D} (r : ResOk T.fa T.K G1 H1 ρ1 σ v x) (n : NewOk H v x) (e : tk x ρ1 = some (d, ρ2)) :
    ∃ G2, GoE T G H ρ σ G2 H1 ρ2 ∧ Rp T.fa T.K G2 v d ∧ Sub G1 G2 := by
  obtain ⟨G2, E2, S2, R2, F2, I2⟩ := tk_ok g.env r e
  exact ⟨G2, ⟨⟨E2, g.step.transN S2 fun x z => z.imp id fun w => n.fr w, g.fix.trans F2⟩, fun i h => I2 i (g.some i h)⟩, R2, S2.mono⟩

/-! ### lists -/
def noStar : Expr → Bool
  | .Starred _ _ => false
  | _ => true
theorem star1 (h : noStar e = true) (env : PySem.Env) : starEach (e :: es) env = (false, eval e env) :: starEach es env := by
  cases e <;> first | rfl | cases h
theorem plain_star (h : es.all noStar = true) (env : PySem.Env) : (backTo pos (starEach es env)).any (·.1) = false := by
  have key : ∀ es : List Expr, es.all noStar = true → ∀ x ∈ starEach es env, x.1 = false := fun es => by
    induction es with
    | nil => intro _ x hx; cases hx
    | cons e es ih =>
      intro h x hx
      rw [List.all_cons, Bool.and_eq_true] at h
      rw [star1 h.1] at hx
      rcases List.mem_cons.mp hx with rfl | hx
      · rfl
      · exact ih h.2 x hx
  rw [List.any_eq_false]
  intro x hx
  unfold backTo at hx
  obtain ⟨y, hy, rfl⟩ := List.mem_map.mp hx
  have := key es h y hy
  simp [this]
/-- a list of expressions is as told -/
structure SA (T : Tb) (W : WX) (X : Cx) (p : Par) (es : List Expr) (E : Ev.E) : Prop where
  pa : PA X es (TAv T W (ev p E))
  ns : es.all noStar = true
theorem sa_nil : SA T W X p [] .nil := ⟨pa_nil.imp fun σ H Q ⟨G, ρ, E, h⟩ => h [] G H (GoE.refl E) .nil (fun _ z => z.elim), rfl⟩
theorem RunL.ba {r : R} {k : List Rs → Ev.Env → R} (h : RunL T W G H ρ σ (r.ba k) QL) : Run T W G H ρ σ r fun x ρ1 v G1 H1 => RunL T W G H ρ σ (k [x] ρ1) QL := by
  cases r with
  | ok r ρ' =>
    intro v G' H' g rk nk
    cases r <;> first
      | exact h
      | exact absurd rk (by intro z; exact z)
  | ex c d ρ' => exact h
  | no => exact h
theorem sa_cons (ha : SE T W X p e A) (hs : noStar e = true) (hb : SA T W X p es B) : SA T W X p (e :: es) (.cons A B) := by
  refine ⟨(pa_cons ha.pe hb.pa (star1 hs _)).imp fun σ H Q ⟨G, ρ, E, h⟩ => ?_, by rw [List.all_cons, hs, hb.ns]; rfl⟩
  refine ⟨G, ρ, E, (RunL.ba (k := fun x ρ1 => (ev p B ρ1).bl fun l ρ2 => .ok (.ls (x ++ l)) ρ2) h).mono fun x ρ1 v G1 H1 g1 rk nk h1 => ?_⟩
  refine ⟨G1, ρ1, g1.env, (h1.blk.from g1).mono fun l ρ2 vs G2 H2 g2 ra na h2 => ?_⟩
  refine h2 (v :: vs) G2 H2 (g1.trans g2) (.cons (rk.step g2.step g2.some) ra fun a e z => ?_) fun a z => ?_
  · exact (rk.frA_own e).2.2 (na a z)
  · rcases z with z | z
    · exact nk.fr z
    · exact na.back g1.step.dom a z
/-! ### displays -/
theorem s_tup (O : XOk T W X) {x1} (ha : SA T W X p es A) : SE T W X p (.Tuple es x1 pos) (.tup A) := by
  have h : PE X (.Tuple es x1 pos) (TEv T W (ev p (.tup A))) := (pe_tup ha.pa).imp fun σ H Q ⟨G, ρ, E, h⟩ => by
    unfold ev at h
    refine ⟨G, ρ, E, h.blk.mono fun l ρ1 vs G1 H1 g ra na h1 => ?_⟩
    cases e : tkAll l ρ1 with
    | none => rw [e] at h1; exact h1.elim
    | some r =>
      obtain ⟨ds, ρ2⟩ := r
      simp only [e] at h1
      obtain ⟨G2, g2, r2, _⟩ := keepAll g ra na e
      split at h1
      · rename_i hz
        refine ⟨by rw [r2.length, ← LIM_eq]; exact hz, fun q hq => ?_⟩
        have n : New T G2 H1 (upd G2 q (.tup vs)) (upd H1 q (.tup vs)) := New.tup g2.env.sub hq
        exact h1 (.ref q) _ _ (g2.trans (n.go g2.env)) (.tup upd_same (r2.mono n.mono)) trivial
      · exact h1.elim
  exact ⟨h, pt_plain O h fun _ => rfl⟩
theorem s_lst (O : XOk T W X) (ha : SA T W X p es A) : SE T W X p (.List es pos) (.lst A) := by
  have h : PE X (.List es pos) (TEv T W (ev p (.lst A))) := (pe_lst ha.pa).imp fun σ H Q ⟨G, ρ, E, h⟩ => by
    unfold ev at h
    refine ⟨G, ρ, E, h.blk.mono fun l ρ1 vs G1 H1 g ra na h1 => ?_⟩
    cases e : tkAll l ρ1 with
    | none => rw [e] at h1; exact h1.elim
    | some r =>
      obtain ⟨ds, ρ2⟩ := r
      simp only [e] at h1
      obtain ⟨G2, g2, r2, _⟩ := keepAll g ra na e
      split at h1
      · rename_i hz
        refine ⟨by rw [r2.length, ← LIM_eq]; exact hz, fun q hq => ?_⟩
        have n : New T G2 H1 G2 (upd H1 q (.lst vs)) := New.own g2.env.sub hq
        have g3 := g2.trans (n.go g2.env)
        have hn : G2 q = none := g2.env.sub.none hq
        refine h1 (.ref q) _ _ g3 ⟨q, rfl, hn, fun z => (g2.env.lof z).1 hq, .inl ⟨vs, ds, rfl, upd_same, r2⟩⟩ fun x ex => ?_
        cases ex
        cases e0 : H q with
        | none => rfl
        | some o => exact absurd hq (g2.step.dom q (by rw [e0]; simp))
      · exact h1.elim
  exact ⟨h, pt_plain O h fun _ => rfl⟩

/-! ### items, parts -/
def plainIx : Expr → Bool
  | .Slice _ _ none _ => false
  | _ => true
theorem plainIx_ok (h : plainIx b = true) : PlainIx b := fun o i => by
  cases b with
  | Slice lo hi st q =>
    cases st with
    | none => cases h
    | some st => rfl
  | _ => rfl
theorem s_ix (O : XOk T W X) (ha : SE T W X p a A) (hb : SE T W X p b B) (hs : plainIx b = true) : SE T W X p (.Subscript a b pos) (.ix A B) := by
  have h : PE X (.Subscript a b pos) (TEv T W (ev p (.ix A B))) := (pe_ix (ix_ev O.K O.units) ha.pe hb.pe (plainIx_ok hs)).imp fun σ H Q ⟨G, ρ, E, h⟩ => by
    unfold ev at h
    refine two (k2 := fun x y ρ2 => match rd x ρ2, rd y ρ2 with | some dx, some dy => (match itemD dx dy with | some d => .ok (.fz d) ρ2 | none => .no) | _, _ => .no) E h fun x y ρ2 v u G2 H2 g r1 r2 _ _ h2 => ?_
    cases e1 : rd x ρ2 with
    | none => rw [e1] at h2; exact h2.elim
    | some dx =>
      cases e2 : rd y ρ2 with
      | none => rw [e1, e2] at h2; exact h2.elim
      | some dy =>
        rw [e1, e2] at h2
        simp only at h2
        cases e3 : itemD dx dy with
        | none => rw [e3] at h2; exact h2.elim
        | some d =>
          rw [e3] at h2
          exact ⟨G2, dx, dy, d, g.env.sub, rd_ok g.env r1 e1, rd_ok g.env r2 e2, e3, fun z hz => Run.okV g h2 hz⟩
  exact ⟨h, pt_plain O h fun _ => rfl⟩
/-- a part's bound: wanted behind it -/
def RunO (T : Tb) (W : WX) (G H : Hp) (ρ : Ev.Env) (σ : L2.St) (r : R) (Q : Option Int → Ev.Env → Hp → Hp → Prop) : Prop := match r with
  | .ok (.ls []) ρ' => ∀ G' H', GoE T G H ρ σ G' H' ρ' → Q none ρ' G' H'
  | .ok x ρ' => ∀ v G' H', GoE T G H ρ σ G' H' ρ' → ResOk T.fa T.K G' H' ρ' σ v x → ∃ i, rd x ρ' = some (.int i) ∧ Q (some i) ρ' G' H'
  | .ex c d ρ' => ∀ G' H' cls dd, GoE T G H ρ σ G' H' ρ' → ExOk T G' H' cls dd c d → W cls dd σ H'
  | .no => False
theorem Run.bo {r : R} {k : Option Int → Ev.Env → R} (h : Run T W G H ρ σ (r.bo k) Q) : RunO T W G H ρ σ r fun o ρ1 G1 H1 => Run T W G H ρ σ (k o ρ1) Q := by
  cases r with
  | ok r ρ' =>
    have key : ∀ x : Rs, (∀ l, x ≠ .ls l) → Run T W G H ρ σ ((R.ok x ρ').bo k) Q → ∀ v G' H', GoE T G H ρ σ G' H' ρ' → ResOk T.fa T.K G' H' ρ' σ v x → ∃ i, rd x ρ' = some (.int i) ∧ Run T W G H ρ σ (k (some i) ρ') Q := fun x hl hx v G' H' g rk => by
      have e0 : (R.ok x ρ').bo k = (match rd x ρ' with | some (.int i) => k (some i) ρ' | _ => .no) := by
        cases x with
        | ls l => exact absurd rfl (hl l)
        | _ => rfl
      rw [e0] at hx
      cases e : rd x ρ' with
      | none => rw [e] at hx; exact hx.elim
      | some d =>
        rw [e] at hx
        cases d with
        | int i => exact ⟨i, rfl, hx⟩
        | _ => exact hx.elim
    cases r with
    | ls l =>
      cases l with
      | nil => exact fun G' H' g => h
      | cons x l => exact fun v G' H' g rk => rk.elim
    | _ => exact key _ (fun l z => by cases z) h
  | ex c d ρ' => exact h
  | no => exact h
theorem RunO.from {r : R} {Q : Option Int → Ev.Env → Hp → Hp → Prop} (g : GoE T G H ρ σ G1 H1 ρ1) (h : RunO T W G H ρ σ r Q) : RunO T W G1 H1 ρ1 σ r Q := by
  cases r with
  | ok r ρ' =>
    cases r with
    | ls l =>
      cases l with
      | nil => exact fun G' H' g' => h G' H' (g.trans g')
      | cons x l => exact fun v G' H' g' rk => h v G' H' (g.trans g') rk
    | _ => exact fun v G' H' g' rk => h v G' H' (g.trans g') rk
  | ex c d ρ' => exact fun G' H' cls dd g' e => h G' H' cls dd (g.trans g') e
  | no => exact h
def TOv (T : Tb) (W : WX) (f : Ev.Env → R) : TO := fun σ H Q => ∃ G ρ, T.Env G H ρ σ ∧ RunO T W G H ρ σ (f ρ) fun o _ _ H' => Q o H'
theorem RunO.mono {r : R} {Q Q' : Option Int → Ev.Env → Hp → Hp → Prop} (h : RunO T W G H ρ σ r Q) (m : ∀ o ρ' G' H', GoE T G H ρ σ G' H' ρ' → Q o ρ' G' H' → Q' o ρ' G' H') : RunO T W G H ρ σ r Q' := by
  cases r with
  | ok r ρ' =>
    have key : ∀ x : Rs, (∀ v G' H', GoE T G H ρ σ G' H' ρ' → ResOk T.fa T.K G' H' ρ' σ v x → ∃ i, rd x ρ' = some (.int i) ∧ Q (some i) ρ' G' H') → ∀ v G' H', GoE T G H ρ σ G' H' ρ' → ResOk T.fa T.K G' H' ρ' σ v x → ∃ i, rd x ρ' = some (.int i) ∧ Q' (some i) ρ' G' H' := fun x hx v G' H' g rk => by
      obtain ⟨i, e, q⟩ := hx v G' H' g rk
      exact ⟨i, e, m _ _ _ _ g q⟩
    cases r with
    | ls l =>
      cases l with
      | nil => exact fun G' H' g => m _ _ _ _ g (h G' H' g)
      | cons x l => exact fun v G' H' g rk => rk.elim
    | _ => exact key _ h
  | ex c d ρ' => exact h
  | no => exact h
/-- a part's bound is as told -/
structure SO (T : Tb) (W : WX) (X : Cx) (p : Par) (e : Option Expr) (E : Ev.E) : Prop where
  po : PO X e (TOv T W (ev p E))
theorem PO.imp {X : Cx} {e : Option Expr} {t t' : TO} (h : PO X e t) (i : ∀ σ H Q, t' σ H Q → t σ H Q) : PO X e t' := ⟨fun pins s σ H Q I hw => h.run pins s σ H Q I (i σ H Q hw)⟩
theorem so_none : SO T W X p none .nil := ⟨PO.imp po_none fun σ H Q ⟨G, ρ, E, h⟩ => h G H (GoE.refl E)⟩
theorem so_some (hb : SE T W X p e B) : SO T W X p (some e) B := ⟨PO.imp (po_some hb.pe) fun σ H Q ⟨G, ρ, E, h⟩ => by
  refine ⟨G, ρ, E, ?_⟩
  cases er : ev p B ρ with
  | ok r ρ' =>
    rw [er] at h
    have key : ∀ x : Rs, (∀ v G' H', GoE T G H ρ σ G' H' ρ' → ResOk T.fa T.K G' H' ρ' σ v x → ∃ i, rd x ρ' = some (.int i) ∧ Q (some i) H') → Run T W G H ρ σ (.ok x ρ') fun x _ v _ H' => ∃ i, v = .int i ∧ Q (some i) H' := fun x hx v G' H' g rk nk => by
      obtain ⟨i, e, q⟩ := hx v G' H' g rk
      exact ⟨i, rdb_int (rd_ok g.env rk e), q⟩
    cases r with
    | ls l => exact fun v G' H' g rk nk => rk.elim
    | _ => exact key _ h
  | ex c d ρ' => rw [er] at h; exact h
  | no => rw [er] at h; exact h.elim⟩
theorem s_sl (O : XOk T W X) {lo hi : Option Expr} {p2 : Pos} (ha : SE T W X p a A) (hb : SO T W X p lo B) (hc : SO T W X p hi C) : SE T W X p (.Subscript a (.Slice lo hi none p2) pos) (.sl A B C) := by
  have h : PE X (.Subscript a (.Slice lo hi none p2) pos) (TEv T W (ev p (.sl A B C))) := (pe_slice (sl_ev O.K) ha.pe hb.po hc.po).imp fun σ H Q ⟨G, ρ, E, h⟩ => by
    unfold ev at h
    refine ⟨G, ρ, E, h.b1k.mono fun x ρ1 v G1 H1 g1 rk nk ⟨_, h1⟩ => ⟨G1, ρ1, g1.env, (h1.bo.from g1).mono fun lo ρ2 G2 H2 g2 h2 => ⟨G2, ρ2, g2.env, (h2.bo.from (g1.trans g2)).mono fun hi ρ3 G3 H3 g3 h3 => ?_⟩⟩⟩
    cases e : rd x ρ3 with
    | none => rw [e] at h3; exact h3.elim
    | some d =>
      rw [e] at h3
      have rk3 := (rk.step g2.step g2.some).step g3.step g3.some
      exact ⟨G3, d, g3.env.sub, rd_ok g3.env rk3 e, Run.endV ((g1.trans g2).trans g3) h3⟩
  exact ⟨h, pt_plain O h fun _ => rfl⟩

/-! ### built-in calls -/
def biName : Bi → String
  | .len => "len" | .list => "list" | .tuple => "tuple" | .sorted => "sorted" | .all => "all" | .any => "any" | .min => "min" | .max => "max" | .sum => "sum" | .abs => "abs" | .int => "int" | .str => "str" | .bool => "bool"
  | .repr => "repr" | .gcd => "gcd" | .lcm => "lcm" | .comb => "comb" | .set => "set"
def biOk : Bi → Bool
  | .len => true | .list => true | .tuple => true | .sorted => true | .all => true | .any => true | .min => true | .max => true | .sum => true | .abs => true | .int => true | .repr => true
  | _ => false
theorem call_bi_ev (O : XOk T W X) {b : Bi} (h : biOk b = true) : CallR X (biVal b) (rBi T b) := by
  cases b with
  | len => exact call_len_ev O.K
  | list => exact call_list_ev O.K
  | tuple => exact call_tuple_ev O.K
  | sorted => exact call_sorted_ev O.K O.calm O.units
  | all => exact call_all_ev O.K O.calm
  | any => exact call_any_ev O.K O.calm
  | min => exact call_min_ev O.K O.calm
  | max => exact call_max_ev O.K O.calm
  | sum => exact call_sum_ev O.K O.calm
  | abs => exact call_abs_ev
  | int => exact call_int_ev
  | repr => exact call_repr_ev O.K O.units O.guards O.rep
  | _ => cases h
theorem pe_bi {b : Bi} {r : List V → Hp → VK → Prop} {t : TA} {q : Pos} (hb : biOk b = true) (hc : CallR X (biVal b) r) (hg : Gl X (Str.ofString (biName b))) (hm : X.mg (Str.ofString (biName b)) = none) (ha : PA X (e :: es) t) (ns : (e :: es).all noStar = true) :
    PE X (.Call (.Name (Str.ofString (biName b)) q) (e :: es) [] pos) (tCB r t) := by
  rw [List.all_cons, Bool.and_eq_true] at ns
  cases b <;> first
    | exact pe_callB hc hg hm rfl ha (by decide) (by decide) (star1 ns.1 _) (plain_star ns.2 _)
    | exact pe_callTy hc hg hm rfl ha (by decide) (by decide) (star1 ns.1 _) (plain_star ns.2 _)
    | exact absurd hb (by decide)
theorem s_bi (O : XOk T W X) (hp : p.rep = T.pr.rep) {b : Bi} {q : Pos} (hb : biOk b = true) (hg : Gl X (Str.ofString (biName b))) (hm : X.mg (Str.ofString (biName b)) = none) (ha : SA T W X p (e :: es) A) : SE T W X p (.Call (.Name (Str.ofString (biName b)) q) (e :: es) [] pos) (.bi b A) := by
  have h : PE X (.Call (.Name (Str.ofString (biName b)) q) (e :: es) [] pos) (TEv T W (ev p (.bi b A))) := (pe_bi hb (call_bi_ev O hb) hg hm ha.pa ha.ns).imp fun σ H Q ⟨G, ρ, E, h⟩ => by
    unfold ev at h
    refine ⟨G, ρ, E, h.blk.mono fun l ρ1 vs G1 H1 g ra na h1 => ?_⟩
    cases e : rdAll l ρ1 with
    | none => rw [e] at h1; exact h1.elim
    | some ds =>
      rw [e, hp] at h1
      exact ⟨G1, ds, g.env.sub, rdAll_ok g.env ra e, Run.endV g h1⟩
  exact ⟨h, pt_plain O h fun _ => rfl⟩

/-! ### divmod, isinstance, range as a list, index -/
theorem s_divmod (O : XOk T W X) {q : Pos} (hg : Gl X "divmod") (hm : X.mg "divmod" = none) (ha : SE T W X p a A) (hb : SE T W X p b B) (ns : ([a, b].all noStar) = true) : SE T W X p (.Call (.Name "divmod" q) [a, b] [] pos) (.divmod A B) := by
  have ns' : noStar a = true ∧ noStar b = true := by simpa using ns
  have hn : ([b].all noStar) = true := by simpa using ns'.2
  have h : PE X (.Call (.Name "divmod" q) [a, b] [] pos) (TEv T W (ev p (.divmod A B))) := (pe_callB call_divmod hg hm rfl (pa_cons ha.pe (pa_cons hb.pe pa_nil (star1 ns'.2 _)) (star1 ns'.1 _)) (by decide) (by decide) (star1 ns'.1 _) (plain_star hn _)).imp fun σ H Q ⟨G, ρ, E, h⟩ => by
    unfold ev at h
    refine two (k2 := fun x y ρ2 => match rd x ρ2, rd y ρ2 with | some (.int i), some (.int j) => if decide (0 < j) && decide (j < 1073741824) then .ok (.fz (.tup [.int (i / j), .int (i % j)])) ρ2 else .no | _, _ => .no) E h fun x y ρ2 v u G2 H2 g r1 r2 _ _ h2 => ?_
    cases e1 : rd x ρ2 with
    | none => rw [e1] at h2; exact h2.elim
    | some dx =>
      cases e2 : rd y ρ2 with
      | none => rw [e1, e2] at h2; cases dx <;> exact h2.elim
      | some dy =>
        rw [e1, e2] at h2
        cases dx <;> cases dy <;> first
          | exact h2.elim
          | (rename_i i j
             simp only at h2
             split at h2
             · rename_i hz
               rw [Bool.and_eq_true, decide_eq_true_eq, decide_eq_true_eq] at hz
               cases rdb_int (rd_ok g.env r1 e1)
               cases rdb_int (rd_ok g.env r2 e2)
               refine ⟨i, j, rfl, hz, fun q hq => ?_⟩
               have n : New T G2 H2 (upd G2 q (.tup [.int (i / j), .int (i % j)])) (upd H2 q (.tup [.int (i / j), .int (i % j)])) := New.tup g.env.sub hq
               exact h2 (.ref q) _ _ (g.trans (n.go g.env)) (.tup upd_same (.cons (.int _) (.cons (.int _) .nil))) trivial
             · exact h2.elim)
  exact ⟨h, pt_plain O h fun _ => rfl⟩
def tyName : Ty → String
  | .int => "int" | .bool => "bool" | .str => "str" | .tuple => "tuple" | .list => "list" | .dict => "dict"
theorem isi_val {K : PySem.W.Frag} {fa : Fa} (sb : Sub G H) {v : V} {d : Ev.D} {t : Ty} {c : Bool} (h : Rdb fa K G H v d) (e : isiD d t = some c) : ∃ u, TyX K H v u ∧ PySem.W.kitOne K u (.type (tyName t)) = some c := by
  cases d with
  | non => cases rdb_non h; exact ⟨_, .base .non, by cases t <;> cases e <;> rfl⟩
  | bl b => cases rdb_bl h; exact ⟨_, .base (.bl _), by cases t <;> cases e <;> rfl⟩
  | int i => cases rdb_int h; exact ⟨_, .base (.int _), by cases t <;> cases e <;> rfl⟩
  | str x => cases rdb_str h; exact ⟨_, .base (.str _), by cases t <;> cases e <;> rfl⟩
  | tup ds =>
    cases h.flat (fun _ z => by cases z) (fun _ _ z => by cases z) with
    | tup h1 r => exact ⟨_, .base (.tup (sb.tup _ _ h1)), by cases t <;> cases e <;> rfl⟩
  | ktp ds =>
    cases h.flat (fun _ z => by cases z) (fun _ _ z => by cases z) with
    | ktp h1 r =>
      obtain ⟨o, its, n, k1, k2, _⟩ := h1
      exact ⟨_, .kTuple k1 k2, by cases t <;> cases e <;> rfl⟩
  | lst ds =>
    obtain ⟨a, vs, rfl, h1, r⟩ := rdb_lst sb h
    rcases h1 with (h1 | ⟨o, h1⟩) | ⟨o, its, n, h1, h2, _⟩
    · exact ⟨_, .base (.lst h1), by cases t <;> cases e <;> rfl⟩
    · exact ⟨_, .base (.frz h1), by cases t <;> cases e <;> rfl⟩
    · exact ⟨_, .kList h1 h2, by cases t <;> cases e <;> rfl⟩
  | dct b es =>
    cases b with
    | true => cases t <;> cases e
    | false =>
      obtain ⟨a, rfl, hd⟩ := rdb_dct sb h
      rcases hd with ⟨_, ks, vs, ds, h1, _⟩ | ⟨z, _⟩
      · rcases h1 with h1 | ⟨o, h1⟩
        · exact ⟨_, .base (.dK h1), by cases t <;> cases e <;> rfl⟩
        · exact ⟨_, .fDict h1, by cases t <;> cases e <;> rfl⟩
      · cases z
  | fn f => cases t <;> cases e
theorem pe_ty {t : Ty} {q : Pos} (hg : Gl X (Str.ofString (tyName t))) (hm : X.mg (Str.ofString (tyName t)) = none) : PE X (.Name (Str.ofString (tyName t)) q) (tC (.ty (tyName t))) := by
  cases t <;> exact pe_bltn hg hm rfl rfl (by decide) (by decide)
theorem s_isi (O : XOk T W X) {q q2 : Pos} {t : Ty} (hg : Gl X "isinstance") (hm : X.mg "isinstance" = none) (hg2 : Gl X (Str.ofString (tyName t))) (hm2 : X.mg (Str.ofString (tyName t)) = none) (ha : SE T W X p a A) (ns : noStar a = true) :
    SE T W X p (.Call (.Name "isinstance" q) [a, .Name (Str.ofString (tyName t)) q2] [] pos) (.isi A t) := by
  have h : PE X (.Call (.Name "isinstance" q) [a, .Name (Str.ofString (tyName t)) q2] [] pos) (TEv T W (ev p (.isi A t))) := (pe_callB call_isi hg hm rfl (pa_cons ha.pe (pa_cons (pe_ty hg2 hm2) pa_nil (star1 rfl _)) (star1 ns _)) (by decide) (by decide) (star1 ns _) (plain_star rfl _)).imp fun σ H Q ⟨G, ρ, E, h⟩ => by
    unfold ev at h
    refine ⟨G, ρ, E, h.b1k.mono fun x ρ1 v G1 H1 g rk nk ⟨_, h1⟩ => ?_⟩
    cases e : rd x ρ1 with
    | none => rw [e] at h1; exact h1.elim
    | some d =>
      rw [e] at h1
      simp only [Option.bind_some] at h1
      cases e2 : isiD d t with
      | none => rw [e2] at h1; exact h1.elim
      | some c =>
        rw [e2] at h1
        obtain ⟨u, k1, k2⟩ := isi_val g.env.sub (rd_ok g.env rk e) e2
        rw [← O.K] at k1 k2
        exact ⟨v, _, u, _, c, rfl, .ty _, k1, k2, Run.okV g h1 (.bl _)⟩
  exact ⟨h, pt_plain O h fun _ => rfl⟩
theorem rg_rp {fa : Fa} {K : PySem.W.Frag} : ∀ (n : Nat) (lo : Int), RpA fa K G ((List.range n).map fun i => V.int (lo + (i : Nat))) (upTo lo n)
  | 0, _ => .nil
  | n + 1, lo => by
    rw [List.range_succ_eq_map, List.map_cons, List.map_map]
    unfold upTo
    have e : ((List.range n).map ((fun i : Nat => V.int (lo + (i : Nat))) ∘ Nat.succ)) = (List.range n).map fun i => V.int ((lo + 1) + (i : Nat)) := List.map_congr_left fun i _ => by
      show V.int (lo + ((i + 1 : Nat) : Int)) = V.int (lo + 1 + (i : Nat))
      congr 1
      omega
    rw [e]
    have h : RpA fa K G _ _ := RpA.cons (.int lo) (rg_rp n (lo + 1))
    have z : lo + ((0 : Nat) : Int) = lo := by simp
    rw [z]
    exact h
theorem upTo_length : ∀ (n : Nat) (lo : Int), (upTo lo n).length = n
  | 0, _ => rfl
  | n + 1, lo => by unfold upTo; rw [List.length_cons, upTo_length n]
theorem range_some {l : List Rs} {k : List Ev.D → R} (h : Run T W G H ρ σ (match (rdAll l ρ1).bind rangeD with | some ds => k ds | none => .no) Q) : ∃ es ds, rdAll l ρ1 = some es ∧ rangeD es = some ds ∧ Run T W G H ρ σ (k ds) Q := by
  cases e : rdAll l ρ1 with
  | none => rw [e] at h; exact h.elim
  | some es =>
    rw [e] at h
    simp only [Option.bind_some] at h
    cases e2 : rangeD es with
    | none => rw [e2] at h; exact h.elim
    | some ds => rw [e2] at h; exact ⟨es, ds, rfl, e2, h⟩
theorem rangeD_two {es ds : List Ev.D} (h : rangeD es = some ds) : (∃ j, es = [.int j] ∧ -(2 ^ 62) ≤ j ∧ j < 2 ^ 62 ∧ ds = upTo 0 j.toNat) ∨ (∃ i j, es = [.int i, .int j] ∧ (-(2 ^ 62) ≤ i ∧ i < 2 ^ 62 ∧ -(2 ^ 62) ≤ j ∧ j < 2 ^ 62) ∧ ds = upTo i (j - i).toNat) := by
  unfold rangeD P62 at h
  split at h
  · split at h
    · rename_i hz
      simp only [Bool.and_eq_true, decide_eq_true_eq] at hz
      cases h
      exact .inl ⟨_, rfl, by omega, by omega, rfl⟩
    · cases h
  · split at h
    · rename_i hz
      simp only [Bool.and_eq_true, decide_eq_true_eq] at hz
      cases h
      exact .inr ⟨_, _, rfl, by omega, rfl⟩
    · cases h
  · cases h
/-- a list of ints, as values -/
theorem vals_int1 {vs : List V} {i : Int} (h : RdA T.fa T.K G H vs [.int i]) : vs = [.int i] := by
  obtain ⟨x, rfl, hx⟩ := rda1 h
  rw [rdb_int hx]
theorem vals_int2 {vs : List V} {i j : Int} (h : RdA T.fa T.K G H vs [.int i, .int j]) : vs = [.int i, .int j] := by
  obtain ⟨x, y, rfl, hx, hy⟩ := rda2 h
  rw [rdb_int hx, rdb_int hy]
theorem vals_int3 {vs : List V} {i j c : Int} (h : RdA T.fa T.K G H vs [.int i, .int j, .int c]) : vs = [.int i, .int j, .int c] := by
  cases h with
  | cons h1 r => cases r with
    | cons h2 r => cases r with
      | cons h3 r => cases r; rw [rdb_int h1, rdb_int h2, rdb_int h3]
def tRgA (t : TA) : L2.St → Hp → (Int → Int → Hp → Prop) → Prop := fun σ H Q => t σ H fun vs H1 => (∃ n, vs = [.int n] ∧ Q 0 n H1) ∨ ∃ i j, vs = [.int i, .int j] ∧ Q i j H1
theorem prg_a {q : Pos} {t : TA} (hg : Gl X "range") (hm : X.mg "range" = none) (ha : PA X (e :: es) t) (ns : (e :: es).all noStar = true) : PRg X (.Call (.Name "range" q) (e :: es) [] pos) (tRgA t) := by
  rw [List.all_cons, Bool.and_eq_true] at ns
  intro pins s σ H Q I h
  refine PyProof.Rows.Call_ (ld_blt I hg hm PyProof.Rows.boot_range (PyProof.Rows.callWith_type1 (thn (ha.run pos pins s σ H _ I h) fun us s1 ⟨vs, H1, I1, r1, q1⟩ => ?_) (star1 ns.1 _) (plain_star ns.2 _)))
  rcases q1 with ⟨n, rfl, q1⟩ | ⟨i, j, rfl, q1⟩
  · obtain ⟨u, rfl, t, rfl⟩ := vals1 r1
    exact PySem.call_range_1 ⟨_, 0, n, _, _, _, H1, rfl, PySem.IsRange.new _ _ _ _ _ _ _, I1.kept fun b u e => Heap.get?_push_of_some _ e, q1⟩
  · obtain ⟨u, w, rfl, ⟨t, rfl⟩, ⟨t', rfl⟩⟩ := vals2 r1
    exact PySem.call_range_2 ⟨_, i, j, _, _, _, H1, rfl, PySem.IsRange.new _ _ _ _ _ _ _, I1.kept fun b u e => Heap.get?_push_of_some _ e, q1⟩
theorem rgOk_of {i j : Int} (h : -(2 ^ 62) ≤ i ∧ i < 2 ^ 62 ∧ -(2 ^ 62) ≤ j ∧ j < 2 ^ 62) (hz : (j - i).toNat ≤ LIM) : RgOk i j := ⟨h.1, h.2.1, h.2.2.1, h.2.2.2, by unfold LIM at hz; omega⟩
/-- what a range's bounds give -/
theorem range_go {k : List Ev.D → Rs} {mk : List V → HO} (hmk : ∀ (G H : Hp) (q : Addr) (vs : List V) (ds : List Ev.D) (ρ : Ev.Env), T.Env G H ρ σ → H q = none → RpA T.fa T.K G vs ds → ∃ G', New T G H G' (upd H q (mk vs)) ∧ Res T G' (upd H q (mk vs)) (.ref q) (k ds))
    {Q : VK} (E : T.Env G H ρ σ) (h : Run T W G H ρ σ ((ev p A ρ).bl fun l ρ1 => match (rdAll l ρ1).bind rangeD with | some ds => if ds.length ≤ LIM then .ok (k ds) ρ1 else .no | none => .no) fun _ _ v _ H' => Q v H') (hn : ∀ H ds q, H q = none → NewOk H (.ref q) (k ds)) :
    tRgA (TAv T W (ev p A)) σ H fun i j H1 => RgOk i j ∧ ∀ q, H1 q = none → Q (.ref q) (upd H1 q (mk (rgV i j))) := by
  refine ⟨G, ρ, E, h.blk.mono fun l ρ1 vs G1 H1 g ra na h1 => ?_⟩
  obtain ⟨es, ds, e1, e2, h2⟩ := range_some h1
  have hra := rdAll_ok g.env ra e1
  have fin : ∀ i j, (-(2 ^ 62) ≤ i ∧ i < 2 ^ 62 ∧ -(2 ^ 62) ≤ j ∧ j < 2 ^ 62) → ds = upTo i (j - i).toNat → RgOk i j ∧ ∀ q, H1 q = none → Q (.ref q) (upd H1 q (mk (rgV i j))) := fun i j hb ed => by
    subst ed
    split at h2
    · rename_i hz
      rw [upTo_length] at hz
      refine ⟨rgOk_of hb hz, fun q hq => ?_⟩
      obtain ⟨G', n, r⟩ := hmk G1 H1 q _ _ ρ1 g.env hq (rg_rp (fa := T.fa) (K := T.K) (j - i).toNat i)
      refine h2 (.ref q) G' _ (g.trans (n.go g.env)) (r.ok g.env (hn H1 _ q hq)) ?_
      exact (hn H1 _ q hq).back g.step.dom
    · exact h2.elim
  rcases rangeD_two e2 with ⟨j, rfl, b1, b2, ed⟩ | ⟨i, j, rfl, hb, ed⟩
  · cases vals_int1 hra
    exact .inl ⟨j, rfl, fin 0 j ⟨by omega, by omega, b1, b2⟩ (by rw [ed]; congr 1; omega)⟩
  · cases vals_int2 hra
    exact .inr ⟨i, j, rfl, fin i j hb ed⟩
theorem s_lrng (O : XOk T W X) {q1 q2 pos2 : Pos} (hg : Gl X "list") (hm : X.mg "list" = none) (hg2 : Gl X "range") (hm2 : X.mg "range" = none) (ha : SA T W X p (e :: es) A) :
    SE T W X p (.Call (.Name "list" q1) [.Call (.Name "range" q2) (e :: es) [] pos2] [] pos) (.lrng A) := by
  have h : PE X (.Call (.Name "list" q1) [.Call (.Name "range" q2) (e :: es) [] pos2] [] pos) (TEv T W (ev p (.lrng A))) := (pe_listRg O.calm hg hm (prg_a hg2 hm2 ha.pa ha.ns) (star1 rfl _)).imp fun σ H Q ⟨G, ρ, E, h⟩ => by
    refine range_go (mk := fun vs => .lst vs) (k := fun ds => .fr (.lst ds)) (fun G H q vs ds ρ E hq r => ?_) E h (fun H ds q hq x ex => by cases ex; exact hq)
    exact ⟨G, New.own E.sub hq, q, rfl, E.sub.none hq, .inl ⟨vs, ds, rfl, upd_same, r⟩⟩
  exact ⟨h, pt_plain O h fun _ => rfl⟩
theorem s_trng (O : XOk T W X) {q1 q2 pos2 : Pos} (hg : Gl X "tuple") (hm : X.mg "tuple" = none) (hg2 : Gl X "range") (hm2 : X.mg "range" = none) (ha : SA T W X p (e :: es) A) :
    SE T W X p (.Call (.Name "tuple" q1) [.Call (.Name "range" q2) (e :: es) [] pos2] [] pos) (.trng A) := by
  have h : PE X (.Call (.Name "tuple" q1) [.Call (.Name "range" q2) (e :: es) [] pos2] [] pos) (TEv T W (ev p (.trng A))) := (pe_tupRg O.calm hg hm (prg_a hg2 hm2 ha.pa ha.ns) (star1 rfl _)).imp fun σ H Q ⟨G, ρ, E, h⟩ => by
    refine range_go (mk := fun vs => .tup vs) (k := fun ds => .fz (.tup ds)) (fun G H q vs ds ρ E hq r => ?_) E h (fun H ds q hq => trivial)
    have n : New T G H (upd G q (.tup vs)) (upd H q (.tup vs)) := New.tup E.sub hq
    exact ⟨_, n, .tup upd_same (r.mono n.mono)⟩
  exact ⟨h, pt_plain O h fun _ => rfl⟩
end
end Ev
end

section
set_option Elab.async false
set_option linter.all false
set_option maxRecDepth 100000
set_option maxHeartbeats 1000000
/-! EvH: calls: what is handed over, what comes back. -/
namespace Ev
open PySem PySem.Spec L2

section
variable {fa : Fa} {K : PySem.W.Frag} {G0 G G' G1 G2 H H' H1 : Hp} {ρ ρ' ρ1 ρ2 : Ev.Env} {σ : L2.St} {v : V} {d : Ev.D}
/-- more is seen, the heap is the same -/
theorem Own.see {p : Addr} (o : Own fa K G H p d) (s : Sub G G') (s' : Sub G' H) : Rdb fa K G' H (.ref p) d := by
  cases e : G' p with
  | none => exact .inr ⟨p, rfl, e, o.step s rfl⟩
  | some w =>
    have key : ∀ u, H p = some u → (∀ a b, u ≠ .frz a b) → G' p = some u := fun u hu nf => by
      rcases s'.rd p w (.inl e) with r | ⟨b, r⟩
      · rw [hu] at r; rw [e, ← r]
      · rw [hu] at r; cases r; exact absurd rfl (nf _ _)
    rcases o with ⟨vs, ds, rfl, h, r⟩ | ⟨ks, vs, ds, rfl, h, l, r⟩ | ⟨ks, vs, ds, rfl, h, l, r⟩
    · exact .inl (.lst (.inl (key _ h fun _ _ z => by cases z)) (r.mono s))
    · exact .inl (.dK (.inl (key _ h fun _ _ z => by cases z)) l (r.mono s))
    · exact .inl (.dT (.inl (key _ h fun _ _ z => by cases z)) l (r.mono s))
theorem Rdb.see (h : Rdb fa K G H v d) (s : Sub G G') (s' : Sub G' H) : Rdb fa K G' H v d := by
  rcases h with h | ⟨p, rfl, n, o⟩
  · exact .inl (h.mono s)
  · exact o.see s s'

/-! ### what is handed over -/
/-- one argument, when all are taken -/
def ArgOk (fa : Fa) (K : PySem.W.Frag) (G H : Hp) (ρ : Ev.Env) (σ : L2.St) (v : V) : Rs → Slot → Prop
  | .bo i, s => ∃ s0, σ[i]? = some (some v) ∧ slot ρ i = some s0 ∧ s = .lk s0.d
  | .le i, s => ∃ d, σ[i]? = some (some v) ∧ (slot ρ i = some (.ow d) ∨ slot ρ i = some (.ln d)) ∧ s = .ln d
  | .gv d, s => s = .ln d ∧ ∃ p, v = .ref p ∧ G p = none ∧ ¬ Lof ρ σ p ∧ Own fa K G H p d
  | _, s => ∃ d, s = .fz d ∧ Rp fa K G v d
inductive ArgsR (fa : Fa) (K : PySem.W.Frag) (G H : Hp) (ρ : Ev.Env) (σ : L2.St) : List V → List Rs → List Slot → Prop
  | nil : ArgsR fa K G H ρ σ [] [] []
  | cons {v : V} {vs : List V} {r : Rs} {rs : List Rs} {s : Slot} {ss : List Slot} : ArgOk fa K G H ρ σ v r s → ArgsR fa K G H ρ σ vs rs ss → ArgsR fa K G H ρ σ (v :: vs) (r :: rs) (s :: ss)
theorem argOf_slot {r : Rs} {s : Slot} {i : Nat} (h : argOf r ρ = some (s, ρ')) (m : ∀ j, r = .sl j → i ≠ j) : slot ρ' i = slot ρ i := by
  cases r with
  | sl j =>
    simp only [argOf, tk] at h
    cases q : slot ρ j with
    | none => rw [q] at h; cases h
    | some s0 =>
      rw [q] at h
      cases s0 <;> first
        | (cases h; rfl)
        | (cases h; exact slot_ne (fun z => m j rfl z.symm))
        | cases h
  | bo j =>
    simp only [argOf] at h
    cases q : slot ρ j with
    | none => rw [q] at h; cases h
    | some s0 => rw [q] at h; cases h; rfl
  | le j =>
    simp only [argOf] at h
    cases q : slot ρ j with
    | none => rw [q] at h; cases h
    | some s0 => rw [q] at h; cases s0 <;> first | (cases h; rfl) | cases h
  | gv d => cases h; rfl
  | fz d => cases h; rfl
  | fr d => cases h; rfl
  | st l => cases h
  | ls l => cases h
  | its l k => cases h
/-- a name's slot stays while other names are taken -/
theorem argsOf_slot : ∀ {l : List Rs} {ρ ρ' : Ev.Env} {as : List Slot} {i : Nat}, argsOf l ρ = some (as, ρ') → mems i l = false → slot ρ' i = slot ρ i
  | [], _, _, _, _, h, _ => by cases h; rfl
  | r :: l, ρ, ρ', as, i, h, m => by
    unfold argsOf at h
    cases e : argOf r ρ with
    | none => rw [e] at h; cases h
    | some q =>
      obtain ⟨s, ρ1⟩ := q
      simp only [e] at h
      cases e2 : argsOf l ρ1 with
      | none => rw [e2] at h; cases h
      | some q2 =>
        obtain ⟨ss, ρ2⟩ := q2
        simp only [e2] at h
        cases h
        have ih := argsOf_slot e2 (i := i) (by
          cases r <;> simp only [mems] at m <;> first | exact m | (simp only [Bool.or_eq_false_iff] at m; exact m.2))
        rw [ih]
        refine argOf_slot e fun j z => ?_
        subst z
        simp only [mems, Bool.or_eq_false_iff, beq_eq_false_iff_ne, ne_eq] at m
        exact m.1
/-- .. and its value in any case -/
theorem argOf_d {r : Rs} {s s0 : Slot} {i : Nat} (h : argOf r ρ = some (s, ρ')) (h0 : slot ρ i = some s0) : ∃ s1, slot ρ' i = some s1 ∧ s1.d = s0.d := by
  by_cases m : ∀ j, r = .sl j → i ≠ j
  · exact ⟨s0, (argOf_slot h m).trans h0, rfl⟩
  · have m : ∃ j, r = .sl j ∧ i = j := by
      apply Classical.byContradiction
      intro z
      exact m fun j e1 e2 => z ⟨j, e1, e2⟩
    obtain ⟨j, rfl, rfl⟩ := m
    simp only [argOf, tk] at h
    rw [h0] at h
    cases s0 with
    | fz d => cases h; exact ⟨_, h0, rfl⟩
    | ow d =>
      cases h
      exact ⟨_, slot_set (slot_lt h0), rfl⟩
    | ln d => cases h
    | lk d => cases h
theorem argsOf_d : ∀ {l : List Rs} {ρ ρ' : Ev.Env} {as : List Slot} {i : Nat} {s0 : Slot}, argsOf l ρ = some (as, ρ') → slot ρ i = some s0 → ∃ s1, slot ρ' i = some s1 ∧ s1.d = s0.d
  | [], _, _, _, _, s0, h, h0 => by cases h; exact ⟨s0, h0, rfl⟩
  | r :: l, ρ, ρ', as, i, s0, h, h0 => by
    unfold argsOf at h
    cases e : argOf r ρ with
    | none => rw [e] at h; cases h
    | some q =>
      obtain ⟨s, ρ1⟩ := q
      simp only [e] at h
      cases e2 : argsOf l ρ1 with
      | none => rw [e2] at h; cases h
      | some q2 =>
        obtain ⟨ss, ρ2⟩ := q2
        simp only [e2] at h
        cases h
        obtain ⟨s1, k1, k2⟩ := argOf_d e h0
        obtain ⟨s2, k3, k4⟩ := argsOf_d e2 k1
        exact ⟨s2, k3, k4.trans k2⟩
theorem lendOk_tail {r : Rs} {l : List Rs} (h : lendOk (r :: l) = true) : lendOk l = true := by
  cases r <;> simp only [lendOk, Bool.and_eq_true] at h <;> first | exact h | exact h.2
/-- one argument is taken: what is known of the others stays -/
theorem ResOk.kept {r : Rs} {x : Rs} {w : V} (s : Step (fun a => Lof ρ σ a ∨ frA w x = some a) (Lof ρ' σ) G H G' H) (h : ResOk fa K G H ρ σ v r) (ne : ∀ a, frA w x = some a → frA v r ≠ some a) (fx : ∀ i, (slot ρ i).isSome = true → (slot ρ' i).isSome = true) : ResOk fa K G' H ρ' σ v r := by
  have fr : ∀ {d : Ev.D}, (∃ p, v = .ref p ∧ G p = none ∧ ¬ Lof ρ σ p ∧ Own fa K G H p d) → (∀ p, v = .ref p → frA v r = some p) → ∃ p, v = .ref p ∧ G' p = none ∧ ¬ Lof ρ' σ p ∧ Own fa K G' H p d := by
    rintro d ⟨p, e, n, l, o⟩ hf
    obtain ⟨u, hu, _, nt⟩ := o.there
    obtain ⟨_, e2, e3⟩ := s.at' hu nt n (fun z => z.elim l fun z => ne p z (hf p e))
    exact ⟨p, e, e2, e3, o.step s.mono rfl⟩
  cases r with
  | fz d => exact Rp.mono s.mono h
  | fr d => exact fr h fun p e => by rw [e]; rfl
  | gv d => exact fr h fun p e => by rw [e]; rfl
  | sl i => exact ⟨h.1, fx i h.2⟩
  | bo i => exact ⟨h.1, fx i h.2⟩
  | le i => exact ⟨h.1, fx i h.2⟩
  | st _ => exact h
  | ls _ => exact h
  | its _ _ => exact h
end
/-- a new one that is lent stays unseen -/
def isGv : Rs → Bool
  | .gv _ => true
  | _ => false
def gvAll : List V → List Rs → Addr → Prop
  | v :: vs, r :: rs, a => (isGv r = true ∧ v = .ref a) ∨ gvAll vs rs a
  | _, _, _ => False
section
variable {fa : Fa} {K : PySem.W.Frag} {G0 : Hp} {H : Hp} {σ : L2.St}
theorem arg_ok {G : Hp} {ρ ρ' : Ev.Env} {v : V} {r : Rs} {s : Slot} (E : EnvOk fa K G0 G H ρ σ) (h : ResOk fa K G H ρ σ v r) (e : argOf r ρ = some (s, ρ')) :
    ∃ G', EnvOk fa K G0 G' H ρ' σ ∧ Step (fun a => Lof ρ σ a ∨ frA v r = some a) (Lof ρ' σ) G H G' H ∧ ArgOk fa K G' H ρ' σ v r s ∧ Fix ρ ρ' σ σ ∧ ∀ i, (slot ρ i).isSome = true → (slot ρ' i).isSome = true := by
  cases r with
  | bo i =>
    simp only [argOf] at e
    cases q : slot ρ i with
    | none => rw [q] at e; cases e
    | some s0 =>
      rw [q] at e
      cases e
      exact ⟨G, E, (Step.refl _ G H).from fun _ h => .inl h, ⟨s0, h.1, q, rfl⟩, Fix.refl _ _, fun _ h => h⟩
  | le i =>
    simp only [argOf] at e
    cases q : slot ρ i with
    | none => rw [q] at e; cases e
    | some s0 =>
      rw [q] at e
      cases s0 with
      | ow d => cases e; exact ⟨G, E, (Step.refl _ G H).from fun _ h => .inl h, ⟨d, h.1, .inl q, rfl⟩, Fix.refl _ _, fun _ h => h⟩
      | ln d => cases e; exact ⟨G, E, (Step.refl _ G H).from fun _ h => .inl h, ⟨d, h.1, .inr q, rfl⟩, Fix.refl _ _, fun _ h => h⟩
      | fz d => cases e
      | lk d => cases e
  | gv d =>
    cases e
    exact ⟨G, E, (Step.refl _ G H).from fun _ h => .inl h, ⟨rfl, h⟩, Fix.refl _ _, fun _ h => h⟩
  | fz d =>
    cases e
    exact ⟨G, E, (Step.refl _ G H).from fun _ h => .inl h, ⟨d, rfl, h⟩, Fix.refl _ _, fun _ h => h⟩
  | fr d =>
    obtain ⟨G', h1, h2, h3, h4, h5⟩ := tk_ok (d := d) (ρ' := ρ) E h rfl
    cases e
    exact ⟨G', h1, h2, ⟨d, rfl, h3⟩, h4, h5⟩
  | sl i =>
    simp only [argOf] at e
    cases q : tk (.sl i) ρ with
    | none => rw [q] at e; cases e
    | some t =>
      obtain ⟨d, ρ1⟩ := t
      rw [q] at e
      cases e
      obtain ⟨G', h1, h2, h3, h4, h5⟩ := tk_ok E h q
      exact ⟨G', h1, h2, ⟨d, rfl, h3⟩, h4, h5⟩
  | st _ => exact h.elim
  | ls _ => exact h.elim
  | its _ _ => exact h.elim
theorem args_ok : ∀ {l : List Rs} {vs : List V} {G : Hp} {ρ ρ' : Ev.Env} {as : List Slot}, EnvOk fa K G0 G H ρ σ → RsA fa K G H ρ σ vs l → lendOk l = true → argsOf l ρ = some (as, ρ') →
    ∃ G', EnvOk fa K G0 G' H ρ' σ ∧ Step (fun a => Lof ρ σ a ∨ frAll vs l a) (Lof ρ' σ) G H G' H ∧ ArgsR fa K G' H ρ' σ vs l as ∧ Fix ρ ρ' σ σ ∧ ∀ i, (slot ρ i).isSome = true → (slot ρ' i).isSome = true
  | [], _, G, ρ, ρ', as, E, h, _, e => by
    cases h
    cases e
    exact ⟨G, E, (Step.refl _ G H).from fun _ h => .inl h, .nil, Fix.refl _ _, fun _ h => h⟩
  | r :: rs, _, G, ρ, ρ', as, E, h, lo, e => by
    cases h with
    | @cons v vs _ _ h1 h2 h3 =>
      unfold argsOf at e
      cases q : argOf r ρ with
      | none => rw [q] at e; cases e
      | some dr =>
        obtain ⟨s, ρ1⟩ := dr
        simp only [q] at e
        cases q2 : argsOf rs ρ1 with
        | none => simp only [q2] at e; cases e
        | some dr2 =>
          obtain ⟨ss, ρ2⟩ := dr2
          simp only [q2] at e
          cases e
          obtain ⟨G1, E1, S1, R1, F1, I1⟩ := arg_ok E h1 q
          have h2' : RsA fa K G1 H ρ1 σ vs rs := by
            clear q2
            have go : ∀ {vs : List V} {rs : List Rs}, RsA fa K G H ρ σ vs rs → (∀ a, frA v r = some a → ¬ frAll vs rs a) → RsA fa K G1 H ρ1 σ vs rs := fun {vs rs} h2 h3 => by
              induction h2 with
              | nil => exact .nil
              | @cons w ws t ts g1 g2 g3 ih => exact .cons (ResOk.kept S1 g1 (fun a z w => h3 a z (.inl w)) I1) (ih fun a e z => h3 a e (.inr z)) g3
            exact go h2 h3
          obtain ⟨G2, E2, S2, R2, F2, I2⟩ := args_ok E1 h2' (lendOk_tail lo) q2
          refine ⟨G2, E2, (S1.from fun a z => z.elim .inl fun w => .inr (.inl w)).trans' S2 (fun a h => h.elim .inl fun z => .inr (.inr (.inr z))), .cons ?_ R2, F1.trans F2, fun i h => I2 i (I1 i h)⟩
          cases r with
          | bo i =>
            obtain ⟨s0, k1, k2, k3⟩ := R1
            obtain ⟨s1, k4, k5⟩ := argsOf_d q2 k2
            exact ⟨s1, k1, k4, by rw [k3, k5]⟩
          | le i =>
            obtain ⟨d, k1, k2, k3⟩ := R1
            have m : mems i rs = false := by
              simp only [lendOk, Bool.and_eq_true, Bool.not_eq_true'] at lo
              exact lo.1
            exact ⟨d, k1, by rw [argsOf_slot q2 m]; exact k2, k3⟩
          | gv d =>
            obtain ⟨k1, p, k2, k3, k4, k5⟩ := R1
            obtain ⟨w, hw, _, nt⟩ := k5.there
            have nf : ¬ frAll vs rs p := h3 p (by rw [k2]; rfl)
            obtain ⟨_, e2, e3⟩ := S2.at' hw nt k3 fun z => z.elim k4 nf
            exact ⟨k1, p, k2, e2, e3, k5.step S2.mono rfl⟩
          | fz d => obtain ⟨d', k1, k2⟩ := R1; exact ⟨d', k1, k2.mono S2.mono⟩
          | fr d => obtain ⟨d', k1, k2⟩ := R1; exact ⟨d', k1, k2.mono S2.mono⟩
          | sl i => obtain ⟨d', k1, k2⟩ := R1; exact ⟨d', k1, k2.mono S2.mono⟩
          | st _ => exact h1.elim
          | ls _ => exact h1.elim
          | its _ _ => exact h1.elim
end

/-! ### the callee's names -/
/-- behind the call: what was lent -/
def outEnv : List Slot → List Ev.D → Ev.Env
  | [], _ => []
  | .ln _ :: r, d :: ds => some (.ln d) :: outEnv r ds
  | .ln _ :: r, [] => none :: outEnv r []
  | .fz _ :: r, ds => none :: outEnv r ds
  | .ow _ :: r, ds => none :: outEnv r ds
  | .lk _ :: r, ds => none :: outEnv r ds
section
variable {fa : Fa} {K : PySem.W.Frag} {G0 G H : Hp} {ρ : Ev.Env} {σ : L2.St} {vs : List V} {l : List Rs} {as : List Slot}
theorem slot_map (as : List Slot) (i : Nat) : slot (as.map some) i = as[i]? := by
  unfold slot
  rw [List.getElem?_map]
  cases as[i]? <;> rfl
theorem ArgsR.get (h : ArgsR fa K G H ρ σ vs l as) : ∀ {i : Nat} {s : Slot}, as[i]? = some s → ∃ v r, vs[i]? = some v ∧ l[i]? = some r ∧ ArgOk fa K G H ρ σ v r s := by
  induction h with
  | nil => intro i s e; simp at e
  | @cons v vs r rs s ss h1 h2 ih =>
    intro i s' e
    cases i with
    | zero => simp at e; subst e; exact ⟨v, r, rfl, rfl, h1⟩
    | succ i => obtain ⟨v', r', k1, k2, k3⟩ := ih (i := i) (by simpa using e); exact ⟨v', r', by simpa using k1, by simpa using k2, k3⟩
theorem ArgsR.length (h : ArgsR fa K G H ρ σ vs l as) : as.length = vs.length ∧ l.length = vs.length := by
  induction h with
  | nil => exact ⟨rfl, rfl⟩
  | cons _ _ ih => exact ⟨by rw [List.length_cons, List.length_cons, ih.1], by rw [List.length_cons, List.length_cons, ih.2]⟩
/-- what is lent to be changed: a name's, or new -/
theorem lent (E : EnvOk fa K G0 G H ρ σ) (h : ArgsR fa K G H ρ σ vs l as) {i : Nat} {s : Slot} (e : as[i]? = some s) (hs : isOw s = true) :
    ∃ p d, vs[i]? = some (.ref p) ∧ s = .ln d ∧ G p = none ∧ Own fa K G H p d ∧ ((∃ j s', l[i]? = some (.le j) ∧ σ[j]? = some (some (.ref p)) ∧ slot ρ j = some s' ∧ isOw s' = true) ∨ (l[i]? = some (.gv d) ∧ ¬ Lof ρ σ p)) := by
  obtain ⟨v, r, k1, k2, k3⟩ := h.get e
  cases r with
  | bo j => obtain ⟨s0, _, _, z⟩ := k3; subst z; cases hs
  | le j =>
    obtain ⟨d, k4, k5, k6⟩ := k3
    rcases k5 with k5 | k5
    · obtain ⟨u, hu, p, e1, n, o⟩ := E.val j _ k5
      rw [k4] at hu
      cases hu
      subst e1
      exact ⟨p, d, k1, k6, n, o, .inl ⟨j, _, k2, k4, k5, rfl⟩⟩
    · obtain ⟨u, hu, p, e1, n, o⟩ := E.val j _ k5
      rw [k4] at hu
      cases hu
      subst e1
      exact ⟨p, d, k1, k6, n, o, .inl ⟨j, _, k2, k4, k5, rfl⟩⟩
  | gv d =>
    obtain ⟨k4, p, k5, k6, k7, k8⟩ := k3
    subst k5
    exact ⟨p, d, k1, k4, k6, k8, .inr ⟨k2, k7⟩⟩
  | fz d => obtain ⟨d', z, _⟩ := k3; subst z; cases hs
  | fr d => obtain ⟨d', z, _⟩ := k3; subst z; cases hs
  | sl j => obtain ⟨d', z, _⟩ := k3; subst z; cases hs
  | st _ => obtain ⟨d', z, _⟩ := k3; subst z; cases hs
  | ls _ => obtain ⟨d', z, _⟩ := k3; subst z; cases hs
  | its _ _ => obtain ⟨d', z, _⟩ := k3; subst z; cases hs
/-- gv at p -/
def GvAt (vs : List V) (l : List Rs) (p : Addr) : Prop := ∃ (i : Nat) (d : Ev.D), l[i]? = some (.gv d) ∧ vs[i]? = some (.ref p)
theorem mems_get {i : Nat} : ∀ {l : List Rs} {k : Nat}, mems i l = false → l[k]? ≠ some (.le i) ∧ l[k]? ≠ some (.bo i)
  | [], k, _ => by simp
  | r :: l, 0, m => by
    refine ⟨fun z => ?_, fun z => ?_⟩
    · simp at z; subst z; simp [mems] at m
    · simp at z; subst z; simp [mems] at m
  | r :: l, k + 1, m => by
    have m' : mems i l = false := by cases r <;> simp only [mems, Bool.or_eq_false_iff] at m <;> first | exact m | exact m.2
    simpa using mems_get (k := k) m'
theorem lend_inj : ∀ {l : List Rs}, lendOk l = true → ∀ {i j a : Nat}, l[i]? = some (.le a) → l[j]? = some (.le a) → i = j
  | [], _, i, _, _, h, _ => by simp at h
  | r :: l, lo, 0, 0, _, _, _ => rfl
  | r :: l, lo, 0, j + 1, a, h1, h2 => by
    simp at h1; subst h1
    simp only [lendOk, Bool.and_eq_true, Bool.not_eq_true'] at lo
    exact absurd (by simpa using h2) (mems_get (k := j) lo.1).1
  | r :: l, lo, i + 1, 0, a, h1, h2 => by
    simp at h2; subst h2
    simp only [lendOk, Bool.and_eq_true, Bool.not_eq_true'] at lo
    exact absurd (by simpa using h1) (mems_get (k := i) lo.1).1
  | r :: l, lo, i + 1, j + 1, a, h1, h2 => by
    have e : i = j := lend_inj (a := a) (lendOk_tail lo) (by simpa using h1) (by simpa using h2)
    rw [e]
theorem lend_bor : ∀ {l : List Rs}, lendOk l = true → ∀ {i j a : Nat}, l[i]? = some (.bo a) → l[j]? = some (.le a) → False
  | [], _, i, _, _, h, _ => by simp at h
  | r :: l, lo, 0, 0, a, h1, h2 => by simp at h1 h2; rw [h1] at h2; cases h2
  | r :: l, lo, 0, j + 1, a, h1, h2 => by
    simp at h1; subst h1
    simp only [lendOk, Bool.and_eq_true, Bool.not_eq_true', List.any_eq_false] at lo
    have := lo.1 (.le a) (List.mem_of_getElem? (by simpa using h2))
    simp at this
  | r :: l, lo, i + 1, 0, a, h1, h2 => by
    simp at h2; subst h2
    simp only [lendOk, Bool.and_eq_true, Bool.not_eq_true'] at lo
    exact absurd (by simpa using h1) (mems_get (k := i) lo.1).2
  | r :: l, lo, i + 1, j + 1, a, h1, h2 => lend_bor (lendOk_tail lo) (i := i) (j := j) (by simpa using h1) (by simpa using h2)
/-- what stands still can't be owned -/
theorem Rp.not_own {p : Addr} {d : Ev.D} (h : Rp fa K G (.ref p) d) (o : Own fa K G H p d) : G p ≠ none := by
  have key : ∀ u, Rd G p u → G p ≠ none := fun u r e => by rcases r with r | ⟨w, r⟩ <;> (rw [e] at r; cases r)
  rcases o with ⟨vs, ds, rfl, _⟩ | ⟨ks, vs, ds, rfl, _⟩ | ⟨ks, vs, ds, rfl, _⟩
  · cases h with | lst h _ => exact key _ h
  · generalize hd : ((ks.map kD).zip ds) = es at h
    cases h with
    | dK h _ _ => exact key _ h
  · generalize hd : ((ks.map fun k => D.tup (k.map kD)).zip ds) = es at h
    cases h with
    | dT h _ _ => exact key _ h
/-- the callee's names at its start -/
theorem callee_env (E : EnvOk fa K G0 G H ρ σ) (h : ArgsR fa K G H ρ σ vs l as) (lo : lendOk l = true) (dis : ∀ (i j : Nat) (p : Addr), (∃ d, l[i]? = some (.gv d)) → (∃ d, l[j]? = some (.gv d)) → vs[i]? = some (.ref p) → vs[j]? = some (.ref p) → i = j)
    (fresh : ∀ p, GvAt vs l p → ∀ j d, slot ρ j = some (.lk d) → σ[j]? = some (some (.ref p)) → ¬ Own fa K G H p d) :
    EnvOk fa K G0 G H (as.map some) (vs.map some) := by
  have vget : ∀ {i : Nat} {v : V}, vs[i]? = some v → (vs.map some)[i]? = some (some v) := fun e => by rw [List.getElem?_map, e]; rfl
  have lc : ∀ p, Lof (as.map some) (vs.map some) p → G p = none ∧ (Lof ρ σ p ∧ (∃ (i j : Nat) (s' : Slot), l[i]? = some (.le j) ∧ σ[j]? = some (some (.ref p)) ∧ slot ρ j = some s' ∧ isOw s' = true) ∨ ¬ Lof ρ σ p ∧ GvAt vs l p) := by
    rintro p ⟨i, s, h1, h2, h3⟩
    rw [slot_map] at h1
    obtain ⟨q, d, k1, k2, k3, k4, k5⟩ := lent E h h1 h2
    rw [vget k1] at h3
    cases h3
    rcases k5 with ⟨j, s', k5, k6, k7, k8⟩ | ⟨k5, k6⟩
    · exact ⟨k3, .inl ⟨⟨j, s', k7, k8, k6⟩, i, j, s', k5, k6, k7, k8⟩⟩
    · exact ⟨k3, .inr ⟨k6, i, d, k5, k1⟩⟩
  refine ⟨E.sub, E.low, by rw [List.length_map, List.length_map, h.length.1], fun i s e => ?_, fun i j s t h1 h2 h3 h4 h5 => ?_⟩
  · rw [slot_map] at e
    obtain ⟨v, r, k1, k2, k3⟩ := h.get e
    refine ⟨v, vget k1, ?_⟩
    cases r with
    | bo j =>
      obtain ⟨s0, k4, k5, k6⟩ := k3
      subst k6
      obtain ⟨u, hu, ok⟩ := E.val j s0 k5
      rw [k4] at hu
      cases hu
      rcases ok.rdb with ok' | ⟨p, rfl, n, o⟩
      · exact .inl ok'
      · refine .inr ⟨p, rfl, n, fun z => ?_, o⟩
        obtain ⟨_, z⟩ := lc p z
        have now : isOw s0 = false → Lof ρ σ p ∨ GvAt vs l p → False := fun hw z => by
          cases s0 with
          | fz d => exact Rp.not_own ok o n
          | ow d => cases hw
          | ln d => cases hw
          | lk d =>
            rcases ok with ok | ⟨q, e1, _, e3, _⟩
            · exact Rp.not_own ok o n
            · cases e1
              rcases z with z | z
              · exact e3 z
              · exact fresh p z j d k5 k4 o
        rcases z with ⟨z1, i', a, s', z2, z3, z4, z5⟩ | ⟨z1, z2⟩
        · cases hw : isOw s0 with
          | true =>
            have := E.inj j a s0 s' k5 z4 hw z5 (by rw [k4, z3])
            subst this
            exact lend_bor lo k2 z2
          | false => exact now hw (.inl z1)
        · cases hw : isOw s0 with
          | true => exact z1 ⟨j, s0, k5, hw, k4⟩
          | false => exact now hw (.inr z2)
    | le j =>
      obtain ⟨d, k4, k5, k6⟩ := k3
      subst k6
      obtain ⟨p, d', m1, m2, m3, m4, _⟩ := lent E h e rfl
      cases m2
      rw [k1] at m1
      cases m1
      exact ⟨p, rfl, m3, m4⟩
    | gv d =>
      obtain ⟨k4, p, k5, k6, k7, k8⟩ := k3
      subst k4
      exact ⟨p, k5, k6, k8⟩
    | fz d => obtain ⟨d', z, k⟩ := k3; subst z; exact k
    | fr d => obtain ⟨d', z, k⟩ := k3; subst z; exact k
    | sl j => obtain ⟨d', z, k⟩ := k3; subst z; exact k
    | st _ => obtain ⟨d', z, k⟩ := k3; subst z; exact k
    | ls _ => obtain ⟨d', z, k⟩ := k3; subst z; exact k
    | its _ _ => obtain ⟨d', z, k⟩ := k3; subst z; exact k
  · rw [slot_map] at h1 h2
    obtain ⟨p, d, k1, k2, k3, k4, k5⟩ := lent E h h1 h3
    obtain ⟨q, d', m1, m2, m3, m4, m5⟩ := lent E h h2 h4
    rw [vget k1, vget m1] at h5
    cases h5
    rcases k5 with ⟨a, s', k5, k6, k7, k8⟩ | ⟨k5, k6⟩
    · rcases m5 with ⟨b, t', m5, m6, m7, m8⟩ | ⟨m5, m6⟩
      · have := E.inj a b s' t' k7 m7 k8 m8 (by rw [k6, m6])
        subst this
        exact lend_inj lo k5 m5
      · exact absurd ⟨a, s', k7, k8, k6⟩ m6
    · rcases m5 with ⟨b, t', m5, m6, m7, m8⟩ | ⟨m5, m6⟩
      · exact absurd ⟨b, t', m7, m8, m6⟩ k6
      · exact dis i j p ⟨d, k5⟩ ⟨d', m5⟩ k1 m1

/-! ### what comes back -/
theorem slot_cons {x : Option Slot} {ρ : Ev.Env} {k : Nat} : slot (x :: ρ) (k + 1) = slot ρ k := by
  unfold slot; simp
theorem slot_zero {x : Option Slot} {ρ : Ev.Env} : slot (x :: ρ) 0 = x := by
  unfold slot; simp
theorem outEnv_length : ∀ (as : List Slot) (ds : List Ev.D), (outEnv as ds).length = as.length
  | [], _ => rfl
  | .ln _ :: r, d :: ds => by simp [outEnv, outEnv_length r ds]
  | .ln _ :: r, [] => by simp [outEnv, outEnv_length r []]
  | .fz _ :: r, ds => by simp [outEnv, outEnv_length r ds]
  | .ow _ :: r, ds => by simp [outEnv, outEnv_length r ds]
  | .lk _ :: r, ds => by simp [outEnv, outEnv_length r ds]
/-- only what was lent stands there -/
theorem outEnv_ln : ∀ {as : List Slot} {ds : List Ev.D} {k : Nat} {s : Slot}, slot (outEnv as ds) k = some s → (∃ d, s = .ln d) ∧ ∃ d, as[k]? = some (.ln d)
  | [], _, k, s, h => by simp [outEnv, slot] at h
  | .ln c :: r, d :: ds, 0, s, h => by simp only [outEnv, slot_zero] at h; cases h; exact ⟨⟨d, rfl⟩, c, rfl⟩
  | .ln c :: r, d :: ds, k + 1, s, h => by simp only [outEnv, slot_cons] at h; simpa using outEnv_ln h
  | .ln c :: r, [], 0, s, h => by simp only [outEnv, slot_zero] at h; cases h
  | .ln c :: r, [], k + 1, s, h => by simp only [outEnv, slot_cons] at h; simpa using outEnv_ln h
  | .fz _ :: r, ds, 0, s, h => by simp only [outEnv, slot_zero] at h; cases h
  | .fz _ :: r, ds, k + 1, s, h => by simp only [outEnv, slot_cons] at h; simpa using outEnv_ln h
  | .ow _ :: r, ds, 0, s, h => by simp only [outEnv, slot_zero] at h; cases h
  | .ow _ :: r, ds, k + 1, s, h => by simp only [outEnv, slot_cons] at h; simpa using outEnv_ln h
  | .lk _ :: r, ds, 0, s, h => by simp only [outEnv, slot_zero] at h; cases h
  | .lk _ :: r, ds, k + 1, s, h => by simp only [outEnv, slot_cons] at h; simpa using outEnv_ln h
/-- the names behind a call -/
def BackAt (l : List Rs) (as : List Slot) (outs : List Ev.D) (ρ ρ' : Ev.Env) : Prop :=
  (∀ (k j : Nat), l[k]? = some (.le j) → ∃ d', slot (outEnv as outs) k = some (.ln d') ∧ ((slot ρ' j = some (.ow d') ∧ ∃ d, slot ρ j = some (.ow d)) ∨ (slot ρ' j = some (.ln d') ∧ ∃ d, slot ρ j = some (.ln d)))) ∧
  (∀ (j : Nat), (∀ (k : Nat), l[k]? ≠ some (.le j)) → slot ρ' j = slot ρ j) ∧ ρ'.length = ρ.length
theorem outs_ok : ∀ {l : List Rs} {vs : List V} {as : List Slot} {outs : List Ev.D} {ρ1 ρ' : Ev.Env}, ArgsR fa K G H ρ σ vs l as → lendOk l = true → outsTo l outs ρ1 = some ρ' → BackAt l as outs ρ1 ρ'
  | [], _, _, outs, ρ1, ρ', h, _, e => by
    cases h
    cases outs with
    | nil => cases e; exact ⟨fun k j z => by simp at z, fun j _ => rfl, rfl⟩
    | cons d ds => cases e
  | r :: l, _, _, outs, ρ1, ρ', h, lo, e => by
    cases h with
    | @cons v vs _ _ s ss h1 h2 =>
      have skip : ∀ {o2 : List Ev.D}, (∀ j, r ≠ .le j) → outEnv (s :: ss) outs = none :: outEnv ss o2 → outsTo l o2 ρ1 = some ρ' → BackAt (r :: l) (s :: ss) outs ρ1 ρ' := fun {o2} nr eo e => by
        obtain ⟨i1, i2, i3⟩ := outs_ok h2 (lendOk_tail lo) e
        refine ⟨fun k j z => ?_, fun j hj => i2 j fun k z => hj (k + 1) (by simpa using z), i3⟩
        cases k with
        | zero => simp at z; exact absurd z (nr j)
        | succ k =>
          obtain ⟨d', k1, k2⟩ := i1 k j (by simpa using z)
          exact ⟨d', by rw [eo, slot_cons]; exact k1, k2⟩
      cases r with
      | le j =>
        cases outs with
        | nil => cases e
        | cons d ds =>
          obtain ⟨d0, _, _, hs⟩ := h1
          subst hs
          have m : mems j l = false := by
            simp only [lendOk, Bool.and_eq_true, Bool.not_eq_true'] at lo
            exact lo.1
          unfold outsTo at e
          have fin : ∀ (s' : Slot), (s' = .ow d ∧ (∃ d, slot ρ1 j = some (.ow d)) ∨ s' = .ln d ∧ ∃ d, slot ρ1 j = some (.ln d)) → j < ρ1.length → outsTo l ds (ρ1.set j (some s')) = some ρ' → BackAt (.le j :: l) (.ln d0 :: ss) (d :: ds) ρ1 ρ' := fun s' hs' hj e => by
            obtain ⟨i1, i2, i3⟩ := outs_ok h2 (lendOk_tail lo) e
            have hj' : slot ρ' j = some s' := by rw [i2 j fun k => (mems_get m).1, slot_set hj]
            have far : ∀ {k j' : Nat}, l[k]? = some (Rs.le j') → j ≠ j' := fun {k j'} z e => by subst e; exact (mems_get (k := k) m).1 z
            refine ⟨fun k j' z => ?_, fun j' hj2 => ?_, by rw [i3, List.length_set]⟩
            · cases k with
              | zero =>
                simp at z; subst z
                refine ⟨d, by rw [outEnv, slot_zero], ?_⟩
                rcases hs' with ⟨e1, e2⟩ | ⟨e1, e2⟩
                · subst e1; exact .inl ⟨hj', e2⟩
                · subst e1; exact .inr ⟨hj', e2⟩
              | succ k =>
                have z' : l[k]? = some (.le j') := by simpa using z
                obtain ⟨d', k1, k2⟩ := i1 k j' z'
                rw [slot_ne (far z')] at k2
                exact ⟨d', by rw [outEnv, slot_cons]; exact k1, k2⟩
            · have nj : j ≠ j' := fun z => hj2 0 (by subst z; rfl)
              rw [i2 j' fun k z => hj2 (k + 1) (by simpa using z), slot_ne nj]
          cases q : slot ρ1 j with
          | none => rw [q] at e; cases e
          | some s0 =>
            rw [q] at e
            cases s0 with
            | ow c => exact fin (.ow d) (.inl ⟨rfl, c, q⟩) (slot_lt q) e
            | ln c => exact fin (.ln d) (.inr ⟨rfl, c, q⟩) (slot_lt q) e
            | fz c => cases e
            | lk c => cases e
      | gv c =>
        obtain ⟨hs, _⟩ := h1
        subst hs
        cases outs with
        | nil => cases e
        | cons d ds =>
          obtain ⟨i1, i2, i3⟩ := outs_ok h2 (lendOk_tail lo) (show outsTo l ds ρ1 = some ρ' from e)
          refine ⟨fun k j z => ?_, fun j hj => i2 j fun k z => hj (k + 1) (by simpa using z), i3⟩
          cases k with
          | zero => simp at z
          | succ k =>
            obtain ⟨d', k1, k2⟩ := i1 k j (by simpa using z)
            exact ⟨d', by rw [outEnv, slot_cons]; exact k1, k2⟩
      | bo j => obtain ⟨s0, _, _, hs⟩ := h1; subst hs; exact skip (fun j z => by cases z) rfl e
      | fz c => obtain ⟨s0, hs, _⟩ := h1; subst hs; exact skip (fun j z => by cases z) rfl e
      | fr c => obtain ⟨s0, hs, _⟩ := h1; subst hs; exact skip (fun j z => by cases z) rfl e
      | sl j => obtain ⟨s0, hs, _⟩ := h1; subst hs; exact skip (fun j z => by cases z) rfl e
      | st _ => cases e
      | ls _ => cases e
      | its _ _ => cases e
/-- whom a callee may change -/
theorem lc_sub (E : EnvOk fa K G0 G H ρ σ) (h : ArgsR fa K G H ρ σ vs l as) : ∀ p, Lof (as.map some) (vs.map some) p → G p = none ∧ (Lof ρ σ p ∧ (∃ (i j : Nat) (s' : Slot), l[i]? = some (.le j) ∧ σ[j]? = some (some (.ref p)) ∧ slot ρ j = some s' ∧ isOw s' = true) ∨ ¬ Lof ρ σ p ∧ GvAt vs l p) := by
  rintro p ⟨i, s, h1, h2, h3⟩
  rw [slot_map] at h1
  obtain ⟨q, d, k1, k2, k3, k4, k5⟩ := lent E h h1 h2
  rw [List.getElem?_map, k1] at h3
  cases h3
  rcases k5 with ⟨j, s', k5, k6, k7, k8⟩ | ⟨k5, k6⟩
  · exact ⟨k3, .inl ⟨⟨j, s', k7, k8, k6⟩, i, j, s', k5, k6, k7, k8⟩⟩
  · exact ⟨k3, .inr ⟨k6, i, d, k5, k1⟩⟩
theorem after_env {G' H' : Hp} {ρ' : Ev.Env} {outs : List Ev.D} (E : EnvOk fa K G0 G H ρ σ) (h : ArgsR fa K G H ρ σ vs l as)
    (fresh : ∀ p, GvAt vs l p → ∀ j d, slot ρ j = some (.lk d) → σ[j]? = some (some (.ref p)) → ¬ Own fa K G H p d)
    (Ec : EnvOk fa K G0 G' H' (outEnv as outs) (vs.map some)) (Sc : Step (Lof (as.map some) (vs.map some)) (Lof (outEnv as outs) (vs.map some)) G H G' H') (B : BackAt l as outs ρ ρ') :
    EnvOk fa K G0 G' H' ρ' σ ∧ Step (fun a => Lof ρ σ a ∨ GvAt vs l a) (Lof ρ' σ) G H G' H' ∧ Fix ρ ρ' σ σ ∧ (∀ i, (slot ρ i).isSome = true → (slot ρ' i).isSome = true) ∧ ∀ a, Lof ρ' σ a → Lof ρ σ a := by
  obtain ⟨b1, b2, b3⟩ := B
  have cls : ∀ j : Nat, (∃ k : Nat, l[k]? = some (.le j)) ∨ ∀ k : Nat, l[k]? ≠ some (.le j) := fun j => by
    by_cases z : ∃ k : Nat, l[k]? = some (.le j)
    · exact .inl z
    · exact .inr fun k e => z ⟨k, e⟩
  have back : ∀ {j : Nat} {s' : Slot}, slot ρ' j = some s' → isOw s' = true → ∃ s, slot ρ j = some s ∧ isOw s = true := fun {j s'} e hs => by
    rcases cls j with ⟨k, hk⟩ | hk
    · obtain ⟨d', _, ⟨_, d, e2⟩ | ⟨_, d, e2⟩⟩ := b1 k j hk
      · exact ⟨_, e2, rfl⟩
      · exact ⟨_, e2, rfl⟩
    · rw [b2 j hk] at e
      exact ⟨s', e, hs⟩
  have lsub : ∀ a, Lof ρ' σ a → Lof ρ σ a := by
    rintro a ⟨j, s', e1, e2, e3⟩
    obtain ⟨s, k1, k2⟩ := back e1 e2
    exact ⟨j, s, k1, k2, e3⟩
  have lc := lc_sub E h
  refine ⟨⟨Ec.sub, Ec.low, b3.trans E.len, fun j s e => ?_, fun i j s t e1 e2 e3 e4 e5 => ?_⟩, ⟨Sc.mono, fun a q1 q2 q3 => ?_, Sc.dom, fun a xs q1 q3 => ?_⟩, fun j hj => ?_, fun j hj => ?_, lsub⟩
  · rcases cls j with ⟨k, hk⟩ | hk
    · obtain ⟨d', m1, m2⟩ := b1 k j hk
      obtain ⟨v, hv, p, rfl, n, o⟩ := Ec.val k _ m1
      have hv' : vs[k]? = some (.ref p) := by
        rw [List.getElem?_map] at hv
        cases q : vs[k]? with
        | none => rw [q] at hv; cases hv
        | some w => rw [q] at hv; cases hv; rfl
      obtain ⟨_, c, hc⟩ := outEnv_ln m1
      obtain ⟨w, r, k1, k2, k3⟩ := h.get hc
      rw [hk] at k2
      cases k2
      obtain ⟨_, k4, _, _⟩ := k3
      rw [hv'] at k1
      cases k1
      refine ⟨.ref p, k4, ?_⟩
      rcases m2 with ⟨m2, _⟩ | ⟨m2, _⟩
      · rw [m2] at e; cases e; exact ⟨p, rfl, n, o⟩
      · rw [m2] at e; cases e; exact ⟨p, rfl, n, o⟩
    · rw [b2 j hk] at e
      obtain ⟨v, hv, ok⟩ := E.val j s e
      refine ⟨v, hv, ?_⟩
      have own : ∀ {d : Ev.D}, isOw s = true → (∃ p, v = .ref p ∧ G p = none ∧ Own fa K G H p d) → ∃ p, v = .ref p ∧ G' p = none ∧ Own fa K G' H' p d := fun {d} hs ⟨p, e1, n, o⟩ => by
        subst e1
        obtain ⟨w, hw, _, nt⟩ := o.there
        have nl : ¬ Lof (as.map some) (vs.map some) p := fun z => by
          obtain ⟨_, z⟩ := lc p z
          rcases z with ⟨_, i, a, s', z1, z2, z3, z4⟩ | ⟨z1, _⟩
          · have := E.inj j a s s' e z3 hs z4 (by rw [hv, z2])
            subst this
            exact hk i z1
          · exact z1 ⟨j, s, e, hs, hv⟩
        obtain ⟨f1, f2, _⟩ := Sc.at' hw nt n nl
        exact ⟨p, rfl, f2, o.step Sc.mono f1⟩
      cases s with
      | fz d => exact Rp.mono Sc.mono ok
      | ow d => exact own rfl ok
      | ln d => exact own rfl ok
      | lk d =>
        rcases ok with ok | ⟨p, e1, n, nl, o⟩
        · exact .inl (Rp.mono Sc.mono ok)
        · subst e1
          obtain ⟨w, hw, _, nt⟩ := o.there
          have nl2 : ¬ Lof (as.map some) (vs.map some) p := fun z => by
            obtain ⟨_, z⟩ := lc p z
            rcases z with ⟨z1, _⟩ | ⟨_, z1⟩
            · exact nl z1
            · exact fresh p z1 j d e hv o
          obtain ⟨f1, f2, _⟩ := Sc.at' hw nt n nl2
          exact .inr ⟨p, rfl, f2, fun z => nl (lsub p z), o.step Sc.mono f1⟩
  · obtain ⟨s0, k1, k2⟩ := back e1 e3
    obtain ⟨t0, k3, k4⟩ := back e2 e4
    exact E.inj i j s0 t0 k1 k3 k2 k4 e5
  · have nl : ¬ Lof (as.map some) (vs.map some) a := fun z => by
      obtain ⟨_, z⟩ := lc a z
      rcases z with ⟨z, _⟩ | ⟨_, z⟩
      · exact q3 (.inl z)
      · exact q3 (.inr z)
    obtain ⟨f1, f2, f3⟩ := Sc.keep a q1 q2 nl
    exact ⟨f1, f2, fun z => q3 (.inl (lsub a z))⟩
  · have nl : ¬ Lof (as.map some) (vs.map some) a := fun z => by
      obtain ⟨_, z⟩ := lc a z
      rcases z with ⟨z, _⟩ | ⟨_, z⟩
      · exact q3 (.inl z)
      · exact q3 (.inr z)
    exact ⟨(Sc.still a xs q1 nl).1, fun z => q3 (.inl (lsub a z))⟩
  · rcases cls j with ⟨k, hk⟩ | hk
    · obtain ⟨d', _, ⟨e1, d, e2⟩ | ⟨e1, d, e2⟩⟩ := b1 k j hk
      · rw [e1] at hj; exact absurd rfl hj
      · rw [e1, e2]; exact ⟨rfl, rfl, fun z => by cases z⟩
    · rw [b2 j hk]; exact ⟨rfl, rfl, fun _ => rfl⟩
  · rcases cls j with ⟨k, hk⟩ | hk
    · obtain ⟨d', _, ⟨e1, d, e2⟩ | ⟨e1, d, e2⟩⟩ := b1 k j hk
      · rw [e1]; rfl
      · rw [e1]; rfl
    · rw [b2 j hk]; exact hj
end

/-! ### a def's promise -/
def noOw (as : List Slot) : Prop := ∀ (i : Nat) (d : Ev.D), as[i]? ≠ some (.ow d)
def spEv (T : Tb) (call : CallF) (f : Nat) : Sp := fun vs H Q E => ∃ G as, noOw as ∧ T.Env G H (as.map some) (vs.map some) ∧ match call f as with
  | .ok fr d outs => ∀ v G' H', T.Env G' H' (outEnv as outs) (vs.map some) → Step (Lof (as.map some) (vs.map some)) (Lof (outEnv as outs) (vs.map some)) G H G' H' →
      ResOk T.fa T.K G' H' (outEnv as outs) (vs.map some) v (if fr then .fr d else .fz d) → NewOk H v (if fr then .fr d else .fz d) → Q v H'
  | .ex c d outs => ∀ G' H' cls dd, T.Env G' H' (outEnv as outs) (vs.map some) → Step (Lof (as.map some) (vs.map some)) (Lof (outEnv as outs) (vs.map some)) G H G' H' → ExOk T G' H' cls dd c d → E cls dd H'
  | .no => False
section
variable {T : Tb} {W : WX} {G G1 H H1 : Hp} {ρ ρ1 : Ev.Env} {σ : L2.St} {vs : List V} {l : List Rs}
theorem gv_at (r : RsA T.fa T.K G H ρ σ vs l) : (∀ (i j : Nat) (p : Addr), (∃ d, l[i]? = some (.gv d)) → (∃ d, l[j]? = some (.gv d)) → vs[i]? = some (.ref p) → vs[j]? = some (.ref p) → i = j) ∧ ∀ p, GvAt vs l p → frAll vs l p := by
  induction r with
  | nil => exact ⟨fun i j p ⟨d, h⟩ => by simp at h, fun p ⟨i, d, h, _⟩ => by simp at h⟩
  | @cons v vs r rs h1 h2 h3 ih =>
    obtain ⟨ih1, ih2⟩ := ih
    refine ⟨fun i j p hi hj e1 e2 => ?_, fun p ⟨i, d, e1, e2⟩ => ?_⟩
    · cases i with
      | zero =>
        cases j with
        | zero => rfl
        | succ j =>
          obtain ⟨d, hi⟩ := hi
          obtain ⟨d', hj⟩ := hj
          simp at hi e1; subst hi; subst e1
          exact (h3 p rfl (ih2 p ⟨j, d', by simpa using hj, by simpa using e2⟩)).elim
      | succ i =>
        cases j with
        | zero =>
          obtain ⟨d, hi⟩ := hi
          obtain ⟨d', hj⟩ := hj
          simp at hj e2; subst hj; subst e2
          exact (h3 p rfl (ih2 p ⟨i, d, by simpa using hi, by simpa using e1⟩)).elim
        | succ j =>
          obtain ⟨d, hi⟩ := hi
          obtain ⟨d', hj⟩ := hj
          rw [ih1 i j p ⟨d, by simpa using hi⟩ ⟨d', by simpa using hj⟩ (by simpa using e1) (by simpa using e2)]
    · cases i with
      | zero => simp at e1 e2; subst e1; subst e2; exact .inl rfl
      | succ i => exact .inr (ih2 p ⟨i, d, by simpa using e1, by simpa using e2⟩)
theorem args_noOw {as : List Slot} (h : ArgsR T.fa T.K G H ρ σ vs l as) : noOw as := fun i d e => by
  obtain ⟨v, r, k1, k2, k3⟩ := h.get e
  cases r with
  | bo j => obtain ⟨s0, _, _, z⟩ := k3; cases z
  | le j => obtain ⟨d, _, _, z⟩ := k3; cases z
  | gv d => obtain ⟨z, _⟩ := k3; cases z
  | fz d => obtain ⟨d', z, _⟩ := k3; cases z
  | fr d => obtain ⟨d', z, _⟩ := k3; cases z
  | sl j => obtain ⟨d', z, _⟩ := k3; cases z
  | st _ => obtain ⟨d', z, _⟩ := k3; cases z
  | ls _ => obtain ⟨d', z, _⟩ := k3; cases z
  | its _ _ => obtain ⟨d', z, _⟩ := k3; cases z
/-- a call of a def that keeps its promise -/
theorem call_go {call : CallF} {f : Nat} {Q : VK} (E0 : T.Env G H ρ σ) (g : GoE T G H ρ σ G1 H1 ρ1) (r : RsA T.fa T.K G1 H1 ρ1 σ vs l) (n : NewAll H vs l) (h : Run T W G H ρ σ (runCall call f l ρ1) fun _ _ v _ H' => Q v H') :
    spEv T call f vs H1 Q (fun cls dd H' => W cls dd σ H') := by
  unfold runCall at h
  cases lo : lendOk l with
  | false => rw [lo] at h; exact h.elim
  | true =>
    rw [lo] at h
    simp only [if_true] at h
    cases ea : argsOf l ρ1 with
    | none => rw [ea] at h; exact h.elim
    | some q =>
      obtain ⟨as, ρ2⟩ := q
      rw [ea] at h
      simp only at h
      obtain ⟨G2, E2, S2, A2, F2, I2⟩ := args_ok g.env r lo ea
      obtain ⟨dis, gvf⟩ := gv_at r
      have g2 : GoE T G H ρ σ G2 H1 ρ2 := ⟨⟨E2, g.step.transN S2 fun x z => z.imp id fun w => n x w, g.fix.trans F2⟩, fun i h => I2 i (g.some i h)⟩
      have fresh : ∀ p, GvAt vs l p → ∀ j d, slot ρ2 j = some (.lk d) → σ[j]? = some (some (.ref p)) → ¬ Own T.fa T.K G2 H1 p d := fun p hp j d e1 e2 o => by
        have hn : H p = none := n p (gvf p hp)
        obtain ⟨_, _, e3⟩ := g2.fix j (by rw [e1]; exact Nat.one_ne_zero)
        have e4 : slot ρ j = some (.lk d) := by rw [← e3 (by rw [e1]; rfl)]; exact e1
        obtain ⟨v, hv, ok⟩ := E0.val j _ e4
        rw [e2] at hv
        cases hv
        rcases ok with ok | ⟨q, e5, n5, _, o5⟩
        · have key : ∀ u, Rd G p u → False := fun u r => by
            rcases E0.sub.rd _ _ r with r | ⟨w, r⟩ <;> (rw [hn] at r; cases r)
          rcases o.inv with ⟨ds, rfl⟩ | ⟨t, es, rfl⟩
          · cases ok with | lst h _ => exact key _ h
          · cases ok with
            | dK h _ _ => exact key _ h
            | dT h _ _ => exact key _ h
        · cases e5
          obtain ⟨w, hw, _⟩ := o5.there
          rw [hn] at hw; cases hw
      refine ⟨G2, as, args_noOw A2, callee_env E2 A2 lo dis fresh, ?_⟩
      have go : ∀ {G' H' : Hp} {outs : List Ev.D} {ρ3 : Ev.Env}, outsTo l outs ρ2 = some ρ3 → T.Env G' H' (outEnv as outs) (vs.map some) → Step (Lof (as.map some) (vs.map some)) (Lof (outEnv as outs) (vs.map some)) G2 H1 G' H' → GoE T G H ρ σ G' H' ρ3 ∧ ∀ a, Lof ρ3 σ a → Lof ρ2 σ a := fun {G' H' outs ρ3} eo Ec Sc => by
        obtain ⟨k1, k2, k3, k4, k5⟩ := after_env E2 A2 fresh Ec Sc (outs_ok A2 lo eo)
        exact ⟨⟨⟨k1, g2.step.transN k2 fun x z => z.imp id fun w => n x (gvf x w), g2.fix.trans k3⟩, fun i hi => k4 i (g2.some i hi)⟩, k5⟩
      cases ec : call f as with
      | ok fr d outs =>
        rw [ec] at h
        simp only at h ⊢
        cases eo : outsTo l outs ρ2 with
        | none => rw [eo] at h; exact h.elim
        | some ρ3 =>
          rw [eo] at h
          simp only at h
          intro v G' H' Ec Sc rk nk
          obtain ⟨g3, ls⟩ := go eo Ec Sc
          cases fr with
          | false => exact h v G' H' g3 rk trivial
          | true =>
            obtain ⟨p, e1, n1, l1, o1⟩ := rk
            have hp : H1 p = none := nk p e1
            refine h v G' H' g3 ⟨p, e1, n1, fun z => (E2.lof (ls p z)).1 hp, o1⟩ fun q eq => ?_
            cases e0 : H q with
            | none => rfl
            | some o => exact absurd (nk q eq) (g.step.dom q (by rw [e0]; simp))
      | ex c d outs =>
        rw [ec] at h
        simp only at h ⊢
        cases eo : outsTo l outs ρ2 with
        | none => rw [eo] at h; exact h.elim
        | some ρ3 =>
          rw [eo] at h
          intro G' H' cls dd Ec Sc x
          exact h G' H' cls dd (go eo Ec Sc).1 x
      | no => rw [ec] at h; exact h.elim
end
end Ev
end

section
set_option Elab.async false
set_option linter.all false
set_option maxRecDepth 100000
set_option maxHeartbeats 1000000
/-! EvI: calls of defs, as expressions. -/
namespace Ev
open PySem PySem.Spec L2

/-- a def keeps its promise, where no guard stands -/
structure FnG (P : Program) (w : World) (K : PySem.W.Frag) (mg : Str → Option Value) (base : Heap) (k : Nat) (f : Addr) (fd : FuncData) (ps : List Str) (sp : Sp) : Prop where
  len : ∀ vs H Q E, sp vs H Q E → vs.length = ps.length
  run : ∀ (A : Around) (outer : List PySem.Env) (s : Shared) (H : Hp) (args : Args) (us : List Value) (vs : List V) (Q : VK) (E : XK), A.guards = some [] → Room k A → Env0 P w K mg base A outer s H → BindsTo s fd args (ps.zip us) → Vals vs us → sp vs H Q E →
    codeAny (model P w) A (.call (.ref f) args) (CR (CX P w) outer P w H s Q E) s
section
variable {T : Tb} {W : WX} {X : Cx} {p : Par} {G G1 H H1 : Hp} {ρ ρ1 : Ev.Env} {σ : L2.St} {e : Expr} {es : List Expr} {A : Ev.E} {pins : List (Addr × Obj)} {s : Shared} {pos : Pos} {k : Nat} {f : Addr} {fd : FuncData} {ps : List Str} {sp : Sp}
theorem run_g (O : XOk T W X) (F : FnG X.prog X.w X.K X.mg X.base k f fd ps sp) (hr : Room k X.A) {us : List Value} {vs : List V} {args : Args} {Q : VK} (hb : BindsTo s fd args (ps.zip us)) (I : Inv X pins σ H s) (r : Vals vs us) (h : sp vs H Q (fun cls dd H' => W cls dd σ H')) :
    codeAny (model X.prog X.w) X.A (.call (.ref f) args) (fun r s' => match r with | .error e => X.xe e s' | .ok (.ret u) => EP X pins σ Q u s' | .ok _ => False) s := by
  refine codeAny_mono (F.run X.A X.stack s H args us vs Q _ O.guards hr I.env0 hb r h) fun r s' hq => ?_
  cases r with
  | error e => exact passAt O.takes σ pins H s e s' I hq
  | ok fl =>
    cases fl with
    | ret u => exact I.after hq
    | next => exact False.elim hq
    | brk => exact False.elim hq
    | cont => exact False.elim hq
theorem call_g (O : XOk T W X) (F : FnG X.prog X.w X.K X.mg X.base k f fd ps sp) (hr : Room k X.A) {us : List Value} {vs : List V} {us' : List Value} {kw : List (Str × Value)} {Q : VK} (hb : BindsTo s fd ⟨us', kw⟩ (ps.zip us)) (I : Inv X pins σ H s) (r : Vals vs us) (h : sp vs H Q (fun cls dd H' => W cls dd σ H')) :
    wpAny (model X.prog X.w) X.A (call (.ref f) us' kw) (EP X pins σ Q) X.xe s := by
  refine wpAny_call (codeAny_mono (run_g O F hr hb I r h) fun r s' hq => ?_)
  cases r with
  | error e => exact hq
  | ok fl =>
    cases fl with
    | ret u => exact hq
    | next => exact False.elim hq
    | brk => exact False.elim hq
    | cont => exact False.elim hq
theorem s_call (O : XOk T W X) {q : Pos} {x : Str} {i : Nat} (F : FnG X.prog X.w X.K X.mg X.base k f fd ps (spEv T p.call i)) (hr : Room k X.A) (hg : Gl X x) (hm : X.mg x = some (.ref f)) (hk : PySem.W.keepIn X.K (.ref f) = true) (hb : Binds X.K fd ps [])
    (hd : (x == ("__debug__" : Str)) = false) (ha : SA T W X p (e :: es) A) : SE T W X p (.Call (.Name x q) (e :: es) [] pos) (.call i A) := by
  have h : PE X (.Call (.Name x q) (e :: es) [] pos) (TEv T W (ev p (.call i A))) := by
    refine ⟨fun pins s σ H Q I h => ?_⟩
    obtain ⟨G, ρ, E, h⟩ := h
    unfold ev at h
    have ns := ha.ns
    rw [List.all_cons, Bool.and_eq_true] at ns
    refine wpAny_Call_Name_kw (ld_glob I hg hm ?_ hd)
    refine PySem.W.callWith_K (h₀ := X.base) I.ok.mod.kin hk (thn (ha.pa.run pos pins s σ H (fun vs H1 => spEv T p.call i vs H1 Q (fun cls dd H' => W cls dd σ H')) I ⟨G, ρ, E, h.blk.mono fun l ρ1 vs G1 H1 g ra na h1 => call_go E g ra na h1⟩) fun us s1 ⟨vs, H1, I1, r, q⟩ => ⟨I1.kIn, ?_⟩) (star1 ns.1 _) (plain_star ns.2 _)
    have hl : us.length = ps.length := by rw [← r.length]; exact F.len _ _ _ _ q
    have b := hb s1 us I1.kIn (by rw [List.append_nil]; exact hl)
    rw [List.append_nil] at b
    exact call_g O F hr b I1 r q
  exact ⟨h, pt_plain O h fun _ => rfl⟩

/-! ### by names -/
/-- keywords are as told -/
structure SK (T : Tb) (W : WX) (X : Cx) (p : Par) (kws : List Keyword) (ks : List Str) (E : Ev.E) : Prop where
  pk : PK X kws (fun σ H Q => TAv T W (ev p E) σ H fun vs H1 => vs.length = ks.length → Q vs H1)
  all : ∀ pos, (backToKw pos (keywordEach kws X.env)).all (·.1.isSome) = true
  names : ∀ pos, (backToKw pos (keywordEach kws X.env)).filterMap (·.1) = ks
  none' : ∀ pos, (backToKw pos (keywordEach kws X.env)).any (·.1.isNone) = false
theorem sk_nil : SK T W X p [] [] .nil := ⟨⟨fun _ _ _ _ H Q I ⟨G, ρ, E, h⟩ => pk_nil.run _ _ _ _ H Q I (h [] G H (GoE.refl E) .nil (fun _ z => z.elim) rfl)⟩, fun _ => rfl, fun _ => rfl, fun _ => rfl⟩
theorem sk_cons {x : Str} {kpos : Pos} {kws : List Keyword} {ks : List Str} {B : Ev.E} (ha : SE T W X p e A) (hb : SK T W X p kws ks B) : SK T W X p (⟨some x, e, kpos⟩ :: kws) (x :: ks) (.cons A B) := by
  refine ⟨⟨fun pos pins s σ H Q I h => (pk_cons ha.pe hb.pk).run pos pins s σ H Q I ?_⟩, fun pos => ?_, fun pos => ?_, fun pos => ?_⟩
  · obtain ⟨G, ρ, E, h⟩ := h
    refine ⟨G, ρ, E, (RunL.ba (k := fun x ρ1 => (ev p B ρ1).bl fun l ρ2 => .ok (.ls (x ++ l)) ρ2) h).mono fun x ρ1 v G1 H1 g1 rk nk h1 => ?_⟩
    refine ⟨G1, ρ1, g1.env, (h1.blk.from g1).mono fun l ρ2 vs G2 H2 g2 ra na h2 hl => ?_⟩
    refine h2 (v :: vs) G2 H2 (g1.trans g2) (.cons (rk.step g2.step g2.some) ra fun a e z => ?_) (fun a z => ?_) (by rw [List.length_cons, List.length_cons, hl])
    · exact (rk.frA_own e).2.2 (na a z)
    · rcases z with z | z
      · exact nk.fr z
      · exact na.back g1.step.dom a z
  · have := hb.all pos
    simpa [keywordEach, backToKw] using this
  · have := hb.names pos
    simpa [keywordEach, backToKw] using this
  · have := hb.none' pos
    simpa [keywordEach, backToKw] using this
end
theorem permD_get {α : Type} {l : List α} : ∀ {perm : List Nat} {l' : List α}, permD l perm = some l' → l'.length = perm.length ∧ ∀ k i : Nat, perm[k]? = some i → ∃ x, l[i]? = some x ∧ l'[k]? = some x
  | [], l', h => by cases h; exact ⟨rfl, fun k i z => by simp at z⟩
  | j :: r, l', h => by
    unfold permD at h
    cases e1 : l[j]? with
    | none => rw [e1] at h; cases h
    | some x =>
      cases e2 : permD l r with
      | none => rw [e1, e2] at h; cases h
      | some xs =>
        rw [e1, e2] at h
        cases h
        obtain ⟨h1, h2⟩ := permD_get e2
        refine ⟨by simp [h1], fun k i z => ?_⟩
        cases k with
        | zero => simp at z; subst z; exact ⟨x, e1, rfl⟩
        | succ k =>
          obtain ⟨y, k1, k2⟩ := h2 k i (by simpa using z)
          exact ⟨y, k1, by simpa using k2⟩
theorem permD_len {α β : Type} {l : List α} {m : List β} (hl : l.length = m.length) : ∀ {perm : List Nat} {l' : List α}, permD l perm = some l' → ∃ m', permD m perm = some m'
  | [], l', h => ⟨[], rfl⟩
  | j :: r, l', h => by
    unfold permD at h
    cases e1 : l[j]? with
    | none => rw [e1] at h; cases h
    | some x =>
      cases e2 : permD l r with
      | none => rw [e1, e2] at h; cases h
      | some xs =>
        obtain ⟨ms, h3⟩ := permD_len hl e2
        have hj : j < m.length := by rw [← hl]; exact (List.getElem?_eq_some_iff.mp e1).1
        refine ⟨m[j] :: ms, ?_⟩
        unfold permD
        rw [List.getElem?_eq_getElem hj, h3]
section
variable {T : Tb} {W : WX} {X : Cx} {p : Par} {G G1 H H1 : Hp} {ρ ρ1 : Ev.Env} {σ : L2.St} {e : Expr} {es : List Expr} {A : Ev.E} {pins : List (Addr × Obj)} {s : Shared} {pos : Pos} {k : Nat} {f : Addr} {fd : FuncData} {ps : List Str} {sp : Sp}
theorem vals_perm {vs vs' : List V} {us us' : List Value} {perm : List Nat} (r : Vals vs us) (h1 : permD vs perm = some vs') (h2 : permD us perm = some us') : Vals vs' us' := by
  obtain ⟨a1, a2⟩ := permD_get h1
  obtain ⟨b1, b2⟩ := permD_get h2
  refine vals_of_at (by rw [a1, b1]) fun j x u e1 e2 => ?_
  have hj : j < perm.length := by rw [← a1]; exact (List.getElem?_eq_some_iff.mp e1).1
  obtain ⟨x', k1, k2⟩ := a2 j perm[j] (List.getElem?_eq_getElem hj)
  obtain ⟨u', k3, k4⟩ := b2 j perm[j] (List.getElem?_eq_getElem hj)
  rw [e1] at k2; cases k2
  rw [e2] at k4; cases k4
  obtain ⟨w, k5, k6⟩ := r.get k1
  rw [k3] at k5; cases k5
  exact k6
theorem rsA_get {fa : Fa} {K : PySem.W.Frag} {vs : List V} {l : List Rs} (r : RsA fa K G H ρ σ vs l) : vs.length = l.length ∧ (∀ (i : Nat) (v : V) (x : Rs), vs[i]? = some v → l[i]? = some x → ResOk fa K G H ρ σ v x) ∧
    ∀ (i j : Nat) (v w : V) (x y : Rs) (a : Addr), i ≠ j → vs[i]? = some v → l[i]? = some x → vs[j]? = some w → l[j]? = some y → frA v x = some a → frA w y ≠ some a := by
  have all : ∀ {vs : List V} {l : List Rs} {j : Nat} {w : V} {y : Rs} {a : Addr}, vs[j]? = some w → l[j]? = some y → frA w y = some a → frAll vs l a := fun {vs} => by
    induction vs with
    | nil => intro l j w y a e; simp at e
    | cons v vs ih =>
      intro l j w y a e1 e2 e3
      cases l with
      | nil => simp at e2
      | cons z l =>
        cases j with
        | zero => simp at e1 e2; subst e1 e2; exact .inl e3
        | succ j => exact .inr (ih (by simpa using e1) (by simpa using e2) e3)
  induction r with
  | nil => exact ⟨rfl, fun i v x e => by simp at e, fun i j v w x y a _ e => by simp at e⟩
  | @cons v vs r rs h1 h2 h3 ih =>
    obtain ⟨i1, i2, i3⟩ := ih
    refine ⟨by simp [i1], fun i v' x e1 e2 => ?_, fun i j v' w x y a ne e1 e2 e3 e4 e5 e6 => ?_⟩
    · cases i with
      | zero => simp at e1 e2; subst e1 e2; exact h1
      | succ i => exact i2 i v' x (by simpa using e1) (by simpa using e2)
    · cases i with
      | zero =>
        cases j with
        | zero => exact ne rfl
        | succ j => simp at e1 e2; subst e1 e2; exact h3 a e5 (all (by simpa using e3) (by simpa using e4) e6)
      | succ i =>
        cases j with
        | zero => simp at e3 e4; subst e3 e4; exact h3 a e6 (all (by simpa using e1) (by simpa using e2) e5)
        | succ j => exact i3 i j v' w x y a (fun z => ne (by rw [z])) (by simpa using e1) (by simpa using e2) (by simpa using e3) (by simpa using e4) e5 e6
theorem rsA_of {fa : Fa} {K : PySem.W.Frag} : ∀ {vs : List V} {l : List Rs}, vs.length = l.length → (∀ (i : Nat) (v : V) (x : Rs), vs[i]? = some v → l[i]? = some x → ResOk fa K G H ρ σ v x) →
    (∀ (i j : Nat) (v w : V) (x y : Rs) (a : Addr), i ≠ j → vs[i]? = some v → l[i]? = some x → vs[j]? = some w → l[j]? = some y → frA v x = some a → frA w y ≠ some a) → RsA fa K G H ρ σ vs l
  | [], [], _, _, _ => .nil
  | v :: vs, x :: l, h1, h2, h3 => by
    refine .cons (h2 0 v x rfl rfl) (rsA_of (by simpa using h1) (fun i v x a b => h2 (i + 1) v x (by simpa using a) (by simpa using b)) fun i j v w x y a ne b1 b2 b3 b4 => h3 (i + 1) (j + 1) v w x y a (fun z => ne (by omega)) (by simpa using b1) (by simpa using b2) (by simpa using b3) (by simpa using b4)) fun a e z => ?_
    have key : ∀ {vs' : List V} {l' : List Rs}, frAll vs' l' a → ∃ (j : Nat) (w : V) (y : Rs), vs'[j]? = some w ∧ l'[j]? = some y ∧ frA w y = some a := fun {vs'} => by
      induction vs' with
      | nil => intro l' z; exact z.elim
      | cons w vs' ih =>
        intro l' z
        cases l' with
        | nil => exact z.elim
        | cons y l' =>
          rcases z with z | z
          · exact ⟨0, w, y, rfl, rfl, z⟩
          · obtain ⟨j, w', y', k1, k2, k3⟩ := ih z
            exact ⟨j + 1, w', y', by simpa using k1, by simpa using k2, k3⟩
    obtain ⟨j, w, y, k1, k2, k3⟩ := key z
    exact h3 0 (j + 1) v w x y a (by omega) rfl rfl (by simpa using k1) (by simpa using k2) e k3
  | [], _ :: _, h, _, _ => by simp at h
  | _ :: _, [], h, _, _ => by simp at h
theorem frAll_get {vs : List V} {l : List Rs} {a : Addr} : frAll vs l a ↔ ∃ (j : Nat) (w : V) (y : Rs), vs[j]? = some w ∧ l[j]? = some y ∧ frA w y = some a := by
  induction vs generalizing l with
  | nil => exact ⟨fun z => z.elim, fun ⟨j, w, y, e, _⟩ => by simp at e⟩
  | cons v vs ih =>
    cases l with
    | nil => exact ⟨fun z => z.elim, fun ⟨j, w, y, _, e, _⟩ => by simp at e⟩
    | cons x l =>
      refine ⟨fun z => ?_, fun ⟨j, w, y, e1, e2, e3⟩ => ?_⟩
      · rcases z with z | z
        · exact ⟨0, v, x, rfl, rfl, z⟩
        · obtain ⟨j, w, y, k1, k2, k3⟩ := ih.mp z
          exact ⟨j + 1, w, y, by simpa using k1, by simpa using k2, k3⟩
      · cases j with
        | zero => simp at e1 e2; subst e1 e2; exact .inl e3
        | succ j => exact .inr (ih.mpr ⟨j, w, y, by simpa using e1, by simpa using e2, e3⟩)
theorem rsA_perm {fa : Fa} {K : PySem.W.Frag} {vs vs' : List V} {l l' : List Rs} {perm : List Nat} (r : RsA fa K G H ρ σ vs l) (h1 : permD vs perm = some vs') (h2 : permD l perm = some l') (nd : perm.Nodup) : RsA fa K G H ρ σ vs' l' ∧ ∀ a, frAll vs' l' a → frAll vs l a := by
  obtain ⟨a1, a2⟩ := permD_get h1
  obtain ⟨b1, b2⟩ := permD_get h2
  obtain ⟨c1, c2, c3⟩ := rsA_get r
  have at' : ∀ {j : Nat} {v : V} {x : Rs}, vs'[j]? = some v → l'[j]? = some x → ∃ i, perm[j]? = some i ∧ vs[i]? = some v ∧ l[i]? = some x := fun {j v x} e1 e2 => by
    have hj : j < perm.length := by rw [← a1]; exact (List.getElem?_eq_some_iff.mp e1).1
    obtain ⟨x', k1, k2⟩ := a2 j perm[j] (List.getElem?_eq_getElem hj)
    obtain ⟨u', k3, k4⟩ := b2 j perm[j] (List.getElem?_eq_getElem hj)
    rw [e1] at k2; cases k2
    rw [e2] at k4; cases k4
    exact ⟨perm[j], List.getElem?_eq_getElem hj, k1, k3⟩
  refine ⟨rsA_of (by rw [a1, b1]) (fun i v x e1 e2 => ?_) (fun i j v w x y a ne e1 e2 e3 e4 e5 => ?_), fun a z => ?_⟩
  · obtain ⟨m, _, k2, k3⟩ := at' e1 e2
    exact c2 m v x k2 k3
  · obtain ⟨m, k1, k2, k3⟩ := at' e1 e2
    obtain ⟨n, k4, k5, k6⟩ := at' e3 e4
    refine c3 m n v w x y a (fun z => ne ?_) k2 k3 k5 k6 e5
    subst z
    obtain ⟨hi, q1⟩ := List.getElem?_eq_some_iff.mp k1
    obtain ⟨hj, q2⟩ := List.getElem?_eq_some_iff.mp k4
    exact (List.getElem_inj nd).mp (q1.trans q2.symm)
  · obtain ⟨j, w, y, k1, k2, k3⟩ := frAll_get.mp z
    obtain ⟨m, _, k5, k6⟩ := at' k1 k2
    exact frAll_get.mpr ⟨m, w, y, k5, k6, k3⟩
theorem s_callK (O : XOk T W X) {q : Pos} {x : Str} {i : Nat} {kws : List Keyword} {ks : List Str} {perm : List Nat} (F : FnG X.prog X.w X.K X.mg X.base k f fd ps (spEv T p.call i)) (hr : Room k X.A) (hg : Gl X x) (hm : X.mg x = some (.ref f)) (hk : PySem.W.keepIn X.K (.ref f) = true)
    (hb : ∀ (s : Shared) (ws ws' : List Value), X.K.In s.heap → ws'.length = ps.length → permD ws perm = some ws' → ws.length = ks.length → BindsTo s fd ⟨[], ks.zip ws⟩ (ps.zip ws')) (nd : perm.Nodup)
    (hd : (x == ("__debug__" : Str)) = false) (ha : SK T W X p kws ks A) : SE T W X p (.Call (.Name x q) [] kws pos) (.callK i A perm) := by
  have h : PE X (.Call (.Name x q) [] kws pos) (TEv T W (ev p (.callK i A perm))) := by
    refine ⟨fun pins s σ H Q I h => ?_⟩
    obtain ⟨G, ρ, E, h⟩ := h
    unfold ev at h
    refine wpAny_Call_Name_kw (ld_glob I hg hm ?_ hd)
    refine PySem.W.callWith_KW0 (h₀ := X.base) I.ok.mod.kin hk (ha.all pos) (thn (ha.pk.run pos pins s σ H (fun vs H1 => vs.length = ks.length ∧ ∃ vs', permD vs perm = some vs' ∧ spEv T p.call i vs' H1 Q (fun cls dd H' => W cls dd σ H')) I ⟨G, ρ, E, h.blk.mono fun l ρ1 vs G1 H1 g ra na h1 hl0 => ?_⟩) fun us s1 ⟨vs, H1, I1, r, hl, vs', ep, q⟩ => ⟨I1.kIn, ?_⟩) (by rw [ha.none' pos]; rfl)
    · cases e : permD l perm with
      | none => rw [e] at h1; exact h1.elim
      | some l' =>
        rw [e] at h1
        obtain ⟨c1, _, _⟩ := rsA_get ra
        obtain ⟨vs', ev'⟩ := permD_len c1.symm e
        obtain ⟨r1, r2⟩ := rsA_perm ra ev' e nd
        exact ⟨hl0, vs', ev', call_go E g r1 (fun a z => na a (r2 a z)) h1⟩
    · rw [ha.names pos]
      obtain ⟨us', eu⟩ := permD_len r.length ep
      have rv := vals_perm r ep eu
      have hl2 : us'.length = ps.length := by rw [← rv.length]; exact F.len _ _ _ _ q
      exact call_g O F hr (hb s1 us us' I1.kIn hl2 eu (by rw [← r.length]; exact hl)) I1 rv q
  exact ⟨h, pt_plain O h fun _ => rfl⟩
end
end Ev
end

section
set_option Elab.async false
set_option linter.all false
set_option maxRecDepth 100000
set_option maxHeartbeats 1000000
/-! EvJ: names that are set, hidden, locked, brought back. -/
namespace Ev
open PySem PySem.Spec L2

section
variable {fa : Fa} {K : PySem.W.Frag} {G0 G G' H H' : Hp} {ρ ρ' ρ0 ρ1 ρ2 : Ev.Env} {σ σ' σ0 σ1 σ2 : L2.St} {v : V} {d : Ev.D} {L : Addr → Prop}
/-! ### back to names as they were -/
theorem restore (E0 : EnvOk fa K G0 G H ρ0 σ0) (E1 : EnvOk fa K G0 G' H' ρ1 σ1) (S : Step L (Lof ρ1 σ1) G H G' H') (hL : ∀ a, L a → Lof ρ0 σ0 a) (I : Nat → Prop) (hl : ρ2.length = σ2.length)
    (hI : ∀ i, I i → ∀ s, slot ρ2 i = some s → slot ρ0 i = some s ∧ σ2[i]? = σ0[i]? ∧ (isOw s = true → ∀ a, σ0[i]? = some (some (.ref a)) → ¬ L a))
    (hN : ∀ i, ¬ I i → slot ρ2 i = slot ρ1 i ∧ σ2[i]? = σ1[i]?) (hF : ∀ i, ¬ I i → kindOf (slot ρ1 i) = 1 → slot ρ0 i = slot ρ1 i ∧ σ1[i]? = σ0[i]?) :
    EnvOk fa K G0 G' H' ρ2 σ2 ∧ Step (Lof ρ0 σ0) (Lof ρ2 σ2) G H G' H' := by
  have up : ∀ a, Lof ρ2 σ2 a → Lof ρ0 σ0 a ∧ ¬ L a ∨ Lof ρ1 σ1 a := by
    rintro a ⟨i, s, h1, h2, h3⟩
    by_cases hi : I i
    · obtain ⟨k1, k2, k3⟩ := hI i hi s h1
      rw [k2] at h3
      exact .inl ⟨⟨i, s, k1, h2, h3⟩, k3 h2 a h3⟩
    · obtain ⟨k1, k2⟩ := hN i hi
      rw [k1] at h1
      rw [k2] at h3
      exact .inr ⟨i, s, h1, h2, h3⟩
  have own : ∀ {p : Addr} {d : Ev.D}, G p = none → ¬ L p → Own fa K G H p d → G' p = none ∧ ¬ Lof ρ1 σ1 p ∧ Own fa K G' H' p d := fun {p d} n l o => by
    obtain ⟨w, hw, _, nt⟩ := o.there
    obtain ⟨f1, f2, f3⟩ := S.at' hw nt n l
    exact ⟨f2, f3, o.step S.mono f1⟩
  refine ⟨⟨E1.sub, E1.low, hl, fun i s h => ?_, fun i j s t h1 h2 h3 h4 h5 => ?_⟩, ⟨S.mono, fun a q1 q2 q3 => ?_, S.dom, fun a xs q1 q3 => ?_⟩⟩
  · by_cases hi : I i
    · obtain ⟨k1, k2, k3⟩ := hI i hi s h
      obtain ⟨v, hv, ok⟩ := E0.val i s k1
      refine ⟨v, k2.trans hv, ?_⟩
      cases s with
      | fz d => exact Rp.mono S.mono ok
      | ow d =>
        obtain ⟨p, e, n, o⟩ := ok
        subst e
        obtain ⟨f1, _, f3⟩ := own n (k3 rfl p hv) o
        exact ⟨p, rfl, f1, f3⟩
      | ln d =>
        obtain ⟨p, e, n, o⟩ := ok
        subst e
        obtain ⟨f1, _, f3⟩ := own n (k3 rfl p hv) o
        exact ⟨p, rfl, f1, f3⟩
      | lk d =>
        rcases ok with ok | ⟨p, e, n, nl, o⟩
        · exact .inl (Rp.mono S.mono ok)
        · obtain ⟨f1, f2, f3⟩ := own n (fun z => nl (hL p z)) o
          exact .inr ⟨p, e, f1, fun z => (up p z).elim (fun w => nl w.1) f2, f3⟩
    · obtain ⟨k1, k2⟩ := hN i hi
      rw [k1] at h
      obtain ⟨v, hv, ok⟩ := E1.val i s h
      refine ⟨v, k2.trans hv, ?_⟩
      cases s with
      | fz d => exact ok
      | ow d => exact ok
      | ln d => exact ok
      | lk d =>
        obtain ⟨e1, e2⟩ := hF i hi (by rw [h]; rfl)
        rw [h] at e1
        obtain ⟨u, hu, ok0⟩ := E0.val i _ e1
        rw [← e2, hv] at hu
        cases hu
        rcases ok0 with ok0 | ⟨p, e, n, nl, o⟩
        · exact .inl (Rp.mono S.mono ok0)
        · obtain ⟨f1, f2, f3⟩ := own n (fun z => nl (hL p z)) o
          exact .inr ⟨p, e, f1, fun z => (up p z).elim (fun w => nl w.1) f2, f3⟩
  · have ref : ∀ {i : Nat} {s : Slot}, slot ρ2 i = some s → isOw s = true → (I i → False) ∧ slot ρ1 i = some s ∧ σ2[i]? = σ1[i]? ∨ I i ∧ slot ρ0 i = some s ∧ σ2[i]? = σ0[i]? ∧ ∃ p, σ0[i]? = some (some (.ref p)) ∧ ¬ Lof ρ1 σ1 p := fun {i s} h hs => by
      by_cases hi : I i
      · obtain ⟨k1, k2, k3⟩ := hI i hi s h
        obtain ⟨v, hv, ok⟩ := E0.val i s k1
        have key : (∃ p, v = .ref p ∧ G p = none ∧ ∃ d, Own fa K G H p d) → ∃ p, σ0[i]? = some (some (.ref p)) ∧ ¬ Lof ρ1 σ1 p := fun ⟨p, e, n, d, o⟩ => by
          subst e
          exact ⟨p, hv, (own n (k3 hs p hv) o).2.1⟩
        refine .inr ⟨hi, k1, k2, key ?_⟩
        cases s with
        | fz d => cases hs
        | ow d => obtain ⟨p, e, n, o⟩ := ok; exact ⟨p, e, n, d, o⟩
        | ln d => obtain ⟨p, e, n, o⟩ := ok; exact ⟨p, e, n, d, o⟩
        | lk d => cases hs
      · obtain ⟨k1, k2⟩ := hN i hi
        exact .inl ⟨hi, k1 ▸ h, k2⟩
    rcases ref h1 h3 with ⟨i1, i2, i3⟩ | ⟨i1, i2, i3, p, i4, i5⟩
    · rcases ref h2 h4 with ⟨j1, j2, j3⟩ | ⟨j1, j2, j3, q, j4, j5⟩
      · exact E1.inj i j s t i2 j2 h3 h4 (by rw [← i3, ← j3]; exact h5)
      · exact absurd ⟨i, s, i2, h3, by rw [← i3, h5, j3]; exact j4⟩ j5
    · rcases ref h2 h4 with ⟨j1, j2, j3⟩ | ⟨j1, j2, j3, q, j4, j5⟩
      · exact absurd ⟨j, t, j2, h4, by rw [← j3, ← h5, i3]; exact i4⟩ i5
      · exact E0.inj i j s t i2 j2 h3 h4 (by rw [← i3, ← j3]; exact h5)
  · have nl : ¬ L a := fun z => q3 (hL a z)
    obtain ⟨f1, f2, f3⟩ := S.keep a q1 q2 nl
    exact ⟨f1, f2, fun z => (up a z).elim (fun w => q3 w.1) f3⟩
  · have nl : ¬ L a := fun z => q3 (hL a z)
    obtain ⟨f1, f3⟩ := S.still a xs q1 nl
    exact ⟨f1, fun z => (up a z).elim (fun w => q3 w.1) f3⟩

/-! ### fewer names -/
/-- names forgotten -/
theorem fewer (E : EnvOk fa K G0 G H ρ σ) (hl : ρ'.length = σ'.length) (h : ∀ i s, slot ρ' i = some s → slot ρ i = some s ∧ σ'[i]? = σ[i]?) : EnvOk fa K G0 G H ρ' σ' ∧ ∀ a, Lof ρ' σ' a → Lof ρ σ a := by
  have ls : ∀ a, Lof ρ' σ' a → Lof ρ σ a := fun a ⟨i, s, h1, h2, h3⟩ => by
    obtain ⟨k1, k2⟩ := h i s h1
    exact ⟨i, s, k1, h2, by rw [← k2]; exact h3⟩
  refine ⟨⟨E.sub, E.low, hl, fun i s e => ?_, fun i j s t h1 h2 h3 h4 h5 => ?_⟩, ls⟩
  · obtain ⟨k1, k2⟩ := h i s e
    obtain ⟨v, hv, ok⟩ := E.val i s k1
    refine ⟨v, k2.trans hv, ?_⟩
    cases s with
    | fz d => exact ok
    | ow d => exact ok
    | ln d => exact ok
    | lk d => exact ok.imp id fun ⟨p, e, n, l, o⟩ => ⟨p, e, n, fun z => l (ls p z), o⟩
  · obtain ⟨k1, k2⟩ := h i s h1
    obtain ⟨k3, k4⟩ := h j t h2
    exact E.inj i j s t k1 k3 h3 h4 (by rw [← k2, ← k4]; exact h5)
theorem hide_slot : ∀ (vs : List Nat) (ρ : Ev.Env) (i : Nat), slot (hide vs ρ) i = if i ∈ vs then none else slot ρ i
  | [], ρ, i => by simp [hide]
  | v :: vs, ρ, i => by
    unfold hide
    rw [slot_set', hide_slot vs ρ i]
    by_cases e : v = i
    · subst e; simp
    · have e' : ¬ i = v := fun z => e z.symm
      simp [e, e']
theorem hide_length : ∀ (vs : List Nat) (ρ : Ev.Env), (hide vs ρ).length = ρ.length
  | [], ρ => rfl
  | v :: vs, ρ => by unfold hide; rw [List.length_set, hide_length vs ρ]
theorem wipe_get : ∀ (vs : List Nat) (σ : L2.St) (i : Nat), i ∉ vs → (wipe σ vs)[i]? = σ[i]?
  | [], _, _, _ => rfl
  | v :: vs, σ, i, h => by
    unfold wipe
    rw [List.getElem?_set_ne (fun z => h (by simp [z])), wipe_get vs σ i fun z => h (by simp [z])]
theorem hide_ok (E : EnvOk fa K G0 G H ρ σ) (vs : List Nat) : EnvOk fa K G0 G H (hide vs ρ) (wipe σ vs) ∧ ∀ a, Lof (hide vs ρ) (wipe σ vs) a → Lof ρ σ a :=
  fewer E (by rw [hide_length, wipe_length]; exact E.len) fun i s h => by
    rw [hide_slot] at h
    by_cases e : i ∈ vs
    · rw [if_pos e] at h; cases h
    · rw [if_neg e] at h
      exact ⟨h, wipe_get vs σ i e⟩

/-! ### locks -/
theorem lock_some {j : Nat} {s : Slot} {ρ : Ev.Env} (e : slot ρ j = some s) : lock (some j) ρ = ρ.set j (some (.lk s.d)) := by
  unfold lock
  simp only [e]
theorem lock_none {j : Nat} {ρ : Ev.Env} (e : slot ρ j = none) : lock (some j) ρ = ρ := by
  unfold lock
  simp only [e]
theorem lock_slot (k : Option Nat) (ρ : Ev.Env) (i : Nat) : slot (lock k ρ) i = if k = some i then (slot ρ i).map fun s => .lk s.d else slot ρ i := by
  cases k with
  | none => simp [lock]
  | some j =>
    cases e : slot ρ j with
    | none =>
      rw [lock_none e]
      by_cases z : j = i
      · subst z; simp [e]
      · simp [z]
    | some s =>
      rw [lock_some e, slot_set']
      by_cases z : j = i
      · subst z; simp [e, slot_lt e]
      · simp [z]
theorem lock_length (k : Option Nat) (ρ : Ev.Env) : (lock k ρ).length = ρ.length := by
  cases k with
  | none => rfl
  | some j =>
    cases e : slot ρ j with
    | none => rw [lock_none e]
    | some s => rw [lock_some e, List.length_set]
theorem lock_ok (E : EnvOk fa K G0 G H ρ σ) (k : Option Nat) : EnvOk fa K G0 G H (lock k ρ) σ ∧ (∀ a, Lof (lock k ρ) σ a → Lof ρ σ a) ∧ ∀ j s a, k = some j → slot ρ j = some s → isOw s = true → σ[j]? = some (some (.ref a)) → ¬ Lof (lock k ρ) σ a := by
  have ls : ∀ i s, slot (lock k ρ) i = some s → isOw s = true → k ≠ some i ∧ slot ρ i = some s := fun i s h hs => by
    rw [lock_slot] at h
    by_cases e : k = some i
    · rw [if_pos e] at h
      obtain ⟨t, _, rfl⟩ := Option.map_eq_some_iff.mp h
      cases hs
    · rw [if_neg e] at h
      exact ⟨e, h⟩
  have sub : ∀ a, Lof (lock k ρ) σ a → Lof ρ σ a := fun a ⟨i, s, h1, h2, h3⟩ => ⟨i, s, (ls i s h1 h2).2, h2, h3⟩
  have far : ∀ j s a, k = some j → slot ρ j = some s → isOw s = true → σ[j]? = some (some (.ref a)) → ¬ Lof (lock k ρ) σ a := fun j s a e1 e2 e3 e4 ⟨i, t, h1, h2, h3⟩ => by
    obtain ⟨q1, q2⟩ := ls i t h1 h2
    have := E.inj j i s t e2 q2 e3 h2 (by rw [e4, h3])
    subst this
    exact q1 e1
  refine ⟨⟨E.sub, E.low, by rw [lock_length]; exact E.len, fun i s h => ?_, fun i j s t h1 h2 h3 h4 h5 => E.inj i j s t (ls i s h1 h3).2 (ls j t h2 h4).2 h3 h4 h5⟩, sub, far⟩
  rw [lock_slot] at h
  by_cases e : k = some i
  · rw [if_pos e] at h
    obtain ⟨t, ht, rfl⟩ := Option.map_eq_some_iff.mp h
    obtain ⟨v, hv, ok⟩ := E.val i t ht
    refine ⟨v, hv, ?_⟩
    cases t with
    | fz d => exact .inl ok
    | ow d =>
      obtain ⟨p, e1, n, o⟩ := ok
      subst e1
      exact .inr ⟨p, rfl, n, far i _ p e ht rfl hv, o⟩
    | ln d =>
      obtain ⟨p, e1, n, o⟩ := ok
      subst e1
      exact .inr ⟨p, rfl, n, far i _ p e ht rfl hv, o⟩
    | lk d => exact ok.imp id fun ⟨p, e, n, l, o⟩ => ⟨p, e, n, fun z => l (sub p z), o⟩
  · rw [if_neg e] at h
    obtain ⟨v, hv, ok⟩ := E.val i s h
    refine ⟨v, hv, ?_⟩
    cases s with
    | fz d => exact ok
    | ow d => exact ok
    | ln d => exact ok
    | lk d => exact ok.imp id fun ⟨p, e, n, l, o⟩ => ⟨p, e, n, fun z => l (sub p z), o⟩
end
end Ev
end

section
set_option Elab.async false
set_option linter.all false
set_option maxRecDepth 100000
set_option maxHeartbeats 1000000
/-! EvM: targets, walks. -/
namespace Ev
open PySem PySem.Spec L2

/-! ### targets -/
def gv : Ev.G → List Nat
  | .nm i _ => [i]
  | .nil => []
  | .cons a b => gv a ++ gv b
  | .tup l => gv l
section
variable {T : Tb} {W : WX} {X : Cx} {p : Par} {fa : Fa} {K : PySem.W.Frag} {G0 G G1 H H1 : Hp} {ρ ρ' ρ1 : Ev.Env} {σ σ' σ1 : L2.St} {v : V} {d : Ev.D}
theorem set_fz (E : EnvOk fa K G0 G H ρ σ) {i : Nat} (hi : i < ρ.length) (r : Rp fa K G v d) : EnvOk fa K G0 G H (ρ.set i (some (.fz d))) (σ.set i (some v)) ∧ ∀ a, Lof (ρ.set i (some (.fz d))) (σ.set i (some v)) a → Lof ρ σ a := by
  have hi' : i < σ.length := by rw [← E.len]; exact hi
  have old : ∀ j s, slot (ρ.set i (some (.fz d))) j = some s → (j = i ∧ s = .fz d) ∨ (j ≠ i ∧ slot ρ j = some s ∧ (σ.set i (some v))[j]? = σ[j]?) := fun j s h => by
    rw [slot_set'] at h
    by_cases e : i = j
    · subst e
      rw [if_pos rfl, if_pos hi] at h
      cases h
      exact .inl ⟨rfl, rfl⟩
    · rw [if_neg e] at h
      exact .inr ⟨fun z => e z.symm, h, List.getElem?_set_ne e⟩
  have ls : ∀ a, Lof (ρ.set i (some (.fz d))) (σ.set i (some v)) a → Lof ρ σ a := fun a ⟨j, s, h1, h2, h3⟩ => by
    rcases old j s h1 with ⟨_, rfl⟩ | ⟨_, k1, k2⟩
    · cases h2
    · exact ⟨j, s, k1, h2, by rw [← k2]; exact h3⟩
  refine ⟨⟨E.sub, E.low, by rw [List.length_set, List.length_set]; exact E.len, fun j s h => ?_, fun j k s t h1 h2 h3 h4 h5 => ?_⟩, ls⟩
  · rcases old j s h with ⟨rfl, rfl⟩ | ⟨_, k1, k2⟩
    · exact ⟨v, List.getElem?_set_self hi', r⟩
    · obtain ⟨u, hu, ok⟩ := E.val j s k1
      refine ⟨u, k2.trans hu, ?_⟩
      cases s with
      | fz d => exact ok
      | ow d => exact ok
      | ln d => exact ok
      | lk d => exact ok.imp id fun ⟨p, e, n, l, o⟩ => ⟨p, e, n, fun z => l (ls p z), o⟩
  · rcases old j s h1 with ⟨_, rfl⟩ | ⟨_, k1, k2⟩
    · cases h3
    · rcases old k t h2 with ⟨_, rfl⟩ | ⟨_, k3, k4⟩
      · cases h4
      · exact E.inj j k s t k1 k3 h3 h4 (by rw [← k2, ← k4]; exact h5)
/-- behind an assignment -/
structure AsgOk (T : Tb) (G H : Hp) (ρ : Ev.Env) (σ : L2.St) (ρ' : Ev.Env) (σ' : L2.St) (vs : List Nat) : Prop where
  env : T.Env G H ρ' σ'
  lof : ∀ a, Lof ρ' σ' a → Lof ρ σ a
  fix : Fix ρ ρ' σ σ'
  out : ∀ i, i ∉ vs → σ'[i]? = σ[i]? ∧ slot ρ' i = slot ρ i
  some : ∀ i, (slot ρ i).isSome = true → (slot ρ' i).isSome = true
theorem AsgOk.refl (E : T.Env G H ρ σ) : AsgOk T G H ρ σ ρ σ [] := ⟨E, fun _ h => h, Fix.refl _ _, fun _ _ => ⟨rfl, rfl⟩, fun _ h => h⟩
theorem AsgOk.trans {vs ws : List Nat} (a : AsgOk T G H ρ σ ρ1 σ1 vs) (b : AsgOk T G H ρ1 σ1 ρ' σ' ws) : AsgOk T G H ρ σ ρ' σ' (vs ++ ws) :=
  ⟨b.env, fun x h => a.lof x (b.lof x h), a.fix.trans b.fix, fun i h => by
    rw [List.mem_append, not_or] at h
    obtain ⟨h1, h2⟩ := a.out i h.1
    obtain ⟨h3, h4⟩ := b.out i h.2
    exact ⟨h3.trans h1, h4.trans h2⟩, fun i h => b.some i (a.some i h)⟩
theorem AsgOk.go {vs : List Nat} (a : AsgOk T G H ρ σ ρ' σ' vs) : Go T G H ρ σ G H ρ' σ' := ⟨a.env, (Step.refl _ G H).weak a.lof, a.fix⟩
/-- what an assignment is to do -/
def TGv (T : Tb) (g : Ev.G) : TG := fun v σ H Q => ∃ G ρ d ρ', T.Env G H ρ σ ∧ Rp T.fa T.K G v d ∧ asgG g d false ρ = some ρ' ∧ ∀ σ', AsgOk T G H ρ σ ρ' σ' (gv g) → Q σ' H
def TGvs (T : Tb) (g : Ev.G) : TGs := fun vs σ H Q => ∃ G ρ ds ρ', T.Env G H ρ σ ∧ RpA T.fa T.K G vs ds ∧ asgG.asgGs g ds ρ = some ρ' ∧ ∀ σ', AsgOk T G H ρ σ ρ' σ' (gv g) → Q σ' H
structure SG (T : Tb) (X : Cx) (e : Expr) (g : Ev.G) : Prop where
  pg : PG X e (TGv T g)
  ns : noStar e = true
structure SGs (T : Tb) (X : Cx) (es : List Expr) (g : Ev.G) : Prop where
  pgs : PGs X es (TGvs T g)
  ns : es.all noStar = true
  len : ∀ ds ρ ρ', asgG.asgGs g ds ρ = some ρ' → ds.length = es.length
theorem asgEach {e : Expr} {es : List Expr} (h : noStar e = true) (env : PySem.Env) : assignEach (e :: es) env = (false, assign e env) :: assignEach es env := by
  cases e <;> first | rfl | cases h
theorem asgEach_all {es : List Expr} (env : PySem.Env) : es.all noStar = true → (assignEach es env).length = es.length ∧ (assignEach es env).findIdx? (·.1) = none := by
  induction es with
  | nil => intro _; exact ⟨rfl, rfl⟩
  | cons e es ih =>
    intro h
    rw [List.all_cons, Bool.and_eq_true] at h
    obtain ⟨h1, h2⟩ := ih h.2
    rw [asgEach h.1]
    refine ⟨by rw [List.length_cons, h1, List.length_cons], ?_⟩
    rw [List.findIdx?_cons]
    simp [h2]
theorem put_ok {i : Nat} {s : Slot} (h : putS i s ρ = some ρ') : i < ρ.length ∧ ρ' = ρ.set i (some s) ∧ ∀ d, slot ρ i ≠ some (.ln d) := by
  unfold putS at h
  cases e : ρ[i]? with
  | none => rw [e] at h; cases h
  | some o =>
    have hi : i < ρ.length := (List.getElem?_eq_some_iff.mp e).1
    rw [e] at h
    have hs : slot ρ i = o := by unfold slot; rw [e]
    cases o with
    | none => cases h; exact ⟨hi, rfl, fun d z => by rw [hs] at z; cases z⟩
    | some t =>
      cases t with
      | ln d => cases h
      | fz d => cases h; exact ⟨hi, rfl, fun d z => by rw [hs] at z; cases z⟩
      | ow d => cases h; exact ⟨hi, rfl, fun d z => by rw [hs] at z; cases z⟩
      | lk d => cases h; exact ⟨hi, rfl, fun d z => by rw [hs] at z; cases z⟩
theorem fix_set {i : Nat} (hi : i < ρ.length) : Fix ρ (ρ.set i (some (.fz d))) σ (σ.set i (some v)) := fun j h => by
  rw [slot_set'] at h ⊢
  by_cases e : i = j
  · rw [if_pos e] at h
    split at h <;> exact absurd rfl h
  · rw [if_neg e] at h ⊢
    exact ⟨rfl, List.getElem?_set_ne e, fun _ => rfl⟩
theorem asg_fz (E : T.Env G H ρ σ) (r : Rp T.fa T.K G v d) {i : Nat} (h : putS i (.fz d) ρ = some ρ') : AsgOk T G H ρ σ ρ' (σ.set i (some v)) [i] := by
  obtain ⟨hi, rfl, _⟩ := put_ok h
  obtain ⟨k1, k2⟩ := set_fz E hi r
  exact ⟨k1, k2, fix_set hi, fun j hj => by
    have ne : i ≠ j := fun z => hj (by simp [z])
    exact ⟨List.getElem?_set_ne ne, slot_ne ne⟩, some_set⟩
theorem asgG_nm {i : Nat} {own : Bool} : asgG (.nm i own) d false ρ = putS i (.fz d) ρ := by
  unfold asgG
  simp
theorem sg_nm {i : Nat} {x : Str} {pos : Pos} {own : Bool} (hN : X.N.Nodup) (hi : X.N[i]? = some x) (hx : Loc X.env.scope x) (hf : X.fn x = true ∨ X.env.scope.names.lookup x = some .local) : SG T X (.Name x pos) (.nm i own) := by
  refine ⟨⟨fun pins s σ H v u Q I r h => (pg_name hN hi hx hf).run pins s σ H v u Q I r ?_⟩, rfl⟩
  obtain ⟨G, ρ, d, ρ', E, rp, e, q⟩ := h
  rw [asgG_nm] at e
  exact q _ (asg_fz E rp e)
theorem sgs_nil : SGs T X [] .nil := by
  refine ⟨⟨fun pins s σ H vs us Q I r h => pgs_nil.run pins s σ H vs us Q I r ?_⟩, rfl, fun ds ρ ρ' e => ?_⟩
  · obtain ⟨G, ρ, ds, ρ', E, rp, e, q⟩ := h
    cases ds with
    | nil => cases e; cases rp; exact ⟨rfl, q σ (AsgOk.refl E)⟩
    | cons d ds => cases e
  · cases ds with
    | nil => rfl
    | cons d ds => cases e
theorem sgs_cons {e : Expr} {es : List Expr} {g gs : Ev.G} (h : SG T X e g) (hs : SGs T X es gs) : SGs T X (e :: es) (.cons g gs) := by
  refine ⟨⟨fun pins s σ H vs us Q I r h' => (pgs_cons h.pg hs.pgs (by rw [asgEach h.ns]; rfl)).run pins s σ H vs us Q I r ?_⟩, by rw [List.all_cons, h.ns, hs.ns]; rfl, fun ds ρ ρ' e => ?_⟩
  · obtain ⟨G, ρ, ds, ρ', E, rp, e, q⟩ := h'
    cases ds with
    | nil => cases e
    | cons d ds =>
      cases rp with
      | @cons v vs _ _ h1 h2 =>
        unfold asgG.asgGs at e
        cases e1 : asgG g d false ρ with
        | none => rw [e1] at e; cases e
        | some ρ1 =>
          rw [e1] at e
          exact ⟨v, vs, rfl, G, ρ, d, ρ1, E, h1, e1, fun σ1 a => ⟨G, ρ1, ds, ρ', a.env, h2, e, fun σ2 b => q σ2 (a.trans b)⟩⟩
  · cases ds with
    | nil => cases e
    | cons d ds =>
      unfold asgG.asgGs at e
      cases e1 : asgG g d false ρ with
      | none => rw [e1] at e; cases e
      | some ρ1 =>
        rw [e1] at e
        rw [List.length_cons, List.length_cons, hs.len ds ρ1 ρ' e]
theorem sg_tup (O : XOk T W X) {es : List Expr} {g : Ev.G} {k : Nat} {pos : Pos} (h : SGs T X es g) : SG T X (.Tuple es k pos) (.tup g) := by
  obtain ⟨h1, h2⟩ := asgEach_all X.env h.ns
  refine ⟨⟨fun pins s σ H v u Q I r hw => (pg_tup O.calm h.pgs h1 h2).run pins s σ H v u Q I r ?_⟩, rfl⟩
  obtain ⟨G, ρ, d, ρ', E, rp, e, q⟩ := hw
  cases rp with
  | @tup a xs ds k1 k2 =>
    have e' : asgG.asgGs g ds ρ = some ρ' := by
      unfold asgG at e
      exact e
    refine ⟨a, xs, rfl, .inl (.inl (E.sub.tup _ _ k1)), by rw [k2.length, h.len ds ρ ρ' e'], G, ρ, ds, ρ', E, k2, e', q⟩
  | @ktp a xs ds k1 k2 =>
    have e' : asgG.asgGs g ds ρ = some ρ' := by
      unfold asgG at e
      exact e
    refine ⟨a, xs, rfl, .inr (by rw [O.K]; exact k1), by rw [k2.length, h.len ds ρ ρ' e'], G, ρ, ds, ρ', E, k2, e', q⟩
  | _ => (unfold asgG at e; cases e)

/-! ### walks -/
structure Wk (T : Tb) (J : It) (l : List Ev.D) (S : Hp → Hp → (Addr → Prop) → Prop) : Prop where
  keep : ∀ G H L G' H' L', S G H L → Step L L' G H G' H' → S G' H' L'
  go : ∀ G H L i, Sub G H → S G H L → i < l.length → J.go i H
  stop : ∀ G H L i, Sub G H → S G H L → l.length ≤ i → J.stop i H
  yld : ∀ G H L i x H' d, Sub G H → S G H L → l[i]? = some d → J.yld i H x H' → ∃ G', New T G H G' H' ∧ Rp T.fa T.K G' x d
def SList (T : Tb) (a : Addr) (vs : List V) (l : List Ev.D) : Hp → Hp → (Addr → Prop) → Prop := fun G H L => RpA T.fa T.K G vs l ∧ (Rd G a (.lst vs) ∨ (H a = some (.lst vs) ∧ G a = none ∧ ¬ L a))
theorem SList.sq {a : Addr} {vs : List V} {l : List Ev.D} {L : Addr → Prop} (sb : Sub G H) (h : SList T a vs l G H L) : SqL T.K H a vs := by
  rcases h.2 with h | h
  · exact .inl (sb.rd _ _ h)
  · exact .inl (.inl h.1)
theorem wk_list (a : Addr) (vs : List V) (l : List Ev.D) : Wk T (Itl T.K a) l (SList T a vs l) where
  keep := fun G H L G' H' L' h s => by
    refine ⟨h.1.mono s.mono, ?_⟩
    rcases h.2 with h | ⟨h1, h2, h3⟩
    · exact .inl (s.mono.rd _ _ h)
    · obtain ⟨e1, e2, e3⟩ := s.at' h1 (fun xs z => by cases z) h2 h3
      exact .inr ⟨e1.trans h1, e2, e3⟩
  go := fun G H L i sb h hi => ⟨vs, vs[i]'(by rw [h.1.length]; exact hi), h.sq sb, by simp⟩
  stop := fun G H L i sb h hi => ⟨vs, h.sq sb, by rw [h.1.length]; exact hi⟩
  yld := fun G H L i x H' d sb h hd y => by
    obtain ⟨rfl, y⟩ := y
    have e := y vs (h.sq sb)
    obtain ⟨d', e1, r⟩ := h.1.getV e
    rw [hd] at e1
    cases e1
    exact ⟨G, New.refl sb, r⟩
def STup (T : Tb) (a : Addr) (vs : List V) (l : List Ev.D) : Hp → Hp → (Addr → Prop) → Prop := fun G H L => RpA T.fa T.K G vs l ∧ (G a = some (.tup vs) ∨ KT T.K a vs)
theorem STup.sq {a : Addr} {vs : List V} {l : List Ev.D} {L : Addr → Prop} (sb : Sub G H) (h : STup T a vs l G H L) : SqT T.K H a vs := by
  rcases h.2 with h | h
  · exact .inl (.inl (sb.tup _ _ h))
  · exact .inr h
theorem wk_tup (a : Addr) (vs : List V) (l : List Ev.D) : Wk T (Itt T.K a) l (STup T a vs l) where
  keep := fun G H L G' H' L' h s => ⟨h.1.mono s.mono, h.2.elim (fun h => .inl (s.mono.tup _ _ h)) .inr⟩
  go := fun G H L i sb h hi => ⟨vs, vs[i]'(by rw [h.1.length]; exact hi), (STup.sq (T := T) (l := l) (L := L) sb h), by simp⟩
  stop := fun G H L i sb h hi => ⟨vs, (STup.sq (T := T) (l := l) (L := L) sb h), by rw [h.1.length]; exact hi⟩
  yld := fun G H L i x H' d sb h hd y => by
    obtain ⟨rfl, y⟩ := y
    have e := y vs ((STup.sq (T := T) (l := l) (L := L) sb h))
    obtain ⟨d', e1, r⟩ := h.1.getV e
    rw [hd] at e1
    cases e1
    exact ⟨G, New.refl sb, r⟩
theorem upTo_get : ∀ (n i : Nat) (lo : Int), i < n → (upTo lo n)[i]? = some (.int (lo + i))
  | 0, i, lo, h => by omega
  | n + 1, 0, lo, h => by unfold upTo; simp
  | n + 1, i + 1, lo, h => by
    unfold upTo
    rw [List.getElem?_cons_succ, upTo_get n i (lo + 1) (by omega)]
    congr 2
    omega
theorem wk_rng (lo : Int) (n : Nat) : Wk T (Itr lo n) (upTo lo n) (fun _ _ _ => True) where
  keep := fun _ _ _ _ _ _ _ _ => trivial
  go := fun G H L i sb h hi => by rw [upTo_length] at hi; exact hi
  stop := fun G H L i sb h hi => by rw [upTo_length] at hi; exact hi
  yld := fun G H L i x H' d sb h hd y => by
    obtain ⟨rfl, rfl⟩ := y
    have hi : i < n := by have := (List.getElem?_eq_some_iff.mp hd).1; rw [upTo_length] at this; exact this
    rw [upTo_get n i lo hi] at hd
    cases hd
    exact ⟨G, New.refl sb, .int _⟩
/-- a thing that no name holds -/
structure Foreign (T : Tb) (G H : Hp) (ρ : Ev.Env) (σ : L2.St) (D : Addr) : Prop where
  there : ∃ w, H D = some w ∧ ∀ xs, w ≠ .tup xs
  non : G D = .none
  own : ¬ Lof ρ σ D
  nolk : ∀ j d, slot ρ j = some (.lk d) → σ[j]? = some (some (.ref D)) → Rp T.fa T.K G (.ref D) d
theorem Foreign.go {D : Addr} (s : Foreign T G H ρ σ D) (g : Go T G H ρ σ G1 H1 ρ1 σ1) : Foreign T G1 H1 ρ1 σ1 D ∧ H1 D = H D := by
  obtain ⟨w, hw, nt⟩ := s.there
  obtain ⟨e1, e2, e3⟩ := g.step.at' hw nt s.non s.own
  refine ⟨⟨⟨w, e1.trans hw, nt⟩, e2, e3, fun j d h1 h2 => ?_⟩, e1⟩
  obtain ⟨_, k2, k3⟩ := g.fix j (by rw [h1]; exact Nat.one_ne_zero)
  exact (s.nolk j d (by rw [← k3 (by rw [h1]; rfl)]; exact h1) (by rw [← k2]; exact h2)).mono g.step.mono
/-- wanted behind what is to be walked -/
def RunI (T : Tb) (W : WX) (G H : Hp) (ρ : Ev.Env) (σ : L2.St) (r : R) (Q : List Ev.D → Option Nat → Ev.Env → Hp → Hp → It → (Hp → Hp → (Addr → Prop) → Prop) → Prop) : Prop := match r with
  | .ok (.its l k) ρ' => ∀ J S G' H', GoE T G H ρ σ G' H' ρ' → Wk T J l S → (∀ M : Addr → Prop, (∀ a, M a → Lof (lock k ρ') σ a ∨ Foreign T G H ρ σ a) → S G' H' M) → Q l k ρ' G' H' J S
  | .ok _ _ => False
  | .ex c d ρ' => ∀ G' H' cls dd, GoE T G H ρ σ G' H' ρ' → ExOk T G' H' cls dd c d → W cls dd σ H'
  | .no => False
def TIv (T : Tb) (W : WX) (f : Ev.Env → R) : TI := fun σ H Q => ∃ G ρ, T.Env G H ρ σ ∧ RunI T W G H ρ σ (f ρ) fun _ _ _ _ H' J _ => Q J H'
structure SI (T : Tb) (W : WX) (X : Cx) (p : Par) (tg e : Expr) (E : Ev.E) : Prop where
  pi : PI X tg e (TIv T W (ev p E))
  fs : ∀ x, foldedSetIterable e X.env x = pure x
theorem RunI.from {r : R} {Q : List Ev.D → Option Nat → Ev.Env → Hp → Hp → It → (Hp → Hp → (Addr → Prop) → Prop) → Prop} (g : GoE T G H ρ σ G1 H1 ρ1) (h : RunI T W G H ρ σ r Q) : RunI T W G1 H1 ρ1 σ r Q := by
  cases r with
  | ok r ρ' =>
    cases r <;> first
      | exact fun J S G' H' g' wk hs => h J S G' H' (g.trans g') wk fun M hm => hs M fun a ha => (hm a ha).imp id fun f => (f.go g.toGo).1
      | exact h
  | ex c d ρ' => exact fun G' H' cls dd g' e => h G' H' cls dd (g.trans g') e
  | no => exact h
theorem _root_.L2.PI.imp {X : Cx} {tg e : Expr} {t t' : TI} (h : PI X tg e t) (i : ∀ σ H Q, t' σ H Q → t σ H Q) : PI X tg e t' := ⟨fun pins s σ H Q I hw => h.run pins s σ H Q I (i σ H Q hw)⟩
def iSeq (K : PySem.W.Frag) (tl : TE) : TI := fun σ H R => tl σ H fun x H1 => ∃ a, x = .ref a ∧ (((∃ xs, SqL K H1 a xs) ∧ R (Itl K a) H1) ∨ ((∃ xs, SqT K H1 a xs) ∧ R (Itt K a) H1))
theorem pi_seq {tg l : Expr} {tl : TE} (hl : PE X l tl) : PI X tg l (iSeq X.K tl) := by
  refine ⟨fun pins s σ H R I h => ?_⟩
  refine thn (hl.run pins s σ H _ I h) fun v s1 ⟨x, H1, I1, r1, q1⟩ => ?_
  obtain ⟨a, e, q⟩ := q1
  subst e
  cases r1
  have fp : ∀ b ∈ [s1.heap.objs.size], FpOk X pins H1 b := fun b hb => by
    have e : b = s1.heap.objs.size := by simpa using hb
    subst e
    exact I1.fpOk (Nat.le_refl _) (I1.hok.fresh (Nat.le_refl _))
  rcases q with ⟨⟨xs, hq⟩, q⟩ | ⟨⟨xs, hq⟩, q⟩
  · obtain ⟨its, rv, p, hz⟩ := I1.list hq
    refine wpAny_pyIter_list p.isList ?_
    exact ⟨s1.heap.objs.size, [s1.heap.objs.size], _, _, H1, rfl, I1.kept (t' := s1.toks) fun b o e => Heap.get?_push_of_some _ e, turn_list a _, ⟨_, Heap.get?_push_size _ rfl, rfl, rfl⟩, fp, q⟩
  · obtain ⟨its, rv, p, hz⟩ := I1.tuple hq
    refine wpAny_pyIter_tuple (show s1.heap.IsTuple a its.toArray from p) ?_
    exact ⟨s1.heap.objs.size, [s1.heap.objs.size], _, _, H1, rfl, I1.kept (t' := s1.toks) fun b o e => Heap.get?_push_of_some _ e, turn_tuple a _, ⟨_, Heap.get?_push_size _ rfl, rfl, rfl⟩, fp, q⟩
/-- what a walk over a value is -/
theorem walk_ok {G0 H0 : Hp} {ρ0 : Ev.Env} (g : GoE T G0 H0 ρ0 σ G H ρ) {x : Rs} {l : List Ev.D} {k : Option Nat} (rk : ResOk T.fa T.K G H ρ σ v x) (nk : NewOk H0 v x) (h : walkOf x ρ = some (l, k)) :
    ∃ a vs, v = .ref a ∧ ((SqL T.K H a vs ∧ ∀ M : Addr → Prop, (∀ a, M a → Lof (lock k ρ) σ a ∨ Foreign T G0 H0 ρ0 σ a) → SList T a vs l G H M) ∨ (SqT T.K H a vs ∧ ∀ M, STup T a vs l G H M)) := by
  have E := g.env
  unfold walkOf at h
  cases e : rd x ρ with
  | none => rw [e] at h; cases h
  | some d =>
    rw [e] at h
    simp only at h
    cases e2 : itemsD d with
    | none => rw [e2] at h; cases h
    | some l' =>
      rw [e2] at h
      simp only at h
      have rp : ∀ {P : (Addr → Prop) → Prop}, Rp T.fa T.K G v d → ∃ a vs, v = .ref a ∧ ((SqL T.K H a vs ∧ ∀ M : Addr → Prop, P M → SList T a vs l' G H M) ∨ (SqT T.K H a vs ∧ ∀ M, STup T a vs l' G H M)) := fun {P} r => by
        cases d with
        | lst ds =>
          cases e2
          cases r with
          | lst h r => exact ⟨_, _, rfl, .inl ⟨.inl (E.sub.rd _ _ h), fun M _ => ⟨r, .inl h⟩⟩⟩
        | tup ds =>
          cases e2
          cases r with
          | tup h r => exact ⟨_, _, rfl, .inr ⟨.inl (.inl (E.sub.tup _ _ h)), fun M => ⟨r, .inl h⟩⟩⟩
        | ktp ds =>
          cases e2
          cases r with
          | ktp h r => exact ⟨_, _, rfl, .inr ⟨.inr h, fun M => ⟨r, .inr h⟩⟩⟩
        | _ => cases e2
      have ow : ∀ {P : (Addr → Prop) → Prop} {p : Addr}, v = .ref p → G p = none → (∀ M : Addr → Prop, P M → ¬ M p) → Own T.fa T.K G H p d → ∃ a vs, v = .ref a ∧ ((SqL T.K H a vs ∧ ∀ M : Addr → Prop, P M → SList T a vs l' G H M) ∨ (SqT T.K H a vs ∧ ∀ M, STup T a vs l' G H M)) := fun {P p} ev n nl o => by
        rcases o with ⟨vs, ds, rfl, hh, r⟩ | ⟨_, _, _, rfl, _⟩ | ⟨_, _, _, rfl, _⟩
        · cases e2
          exact ⟨p, vs, ev, .inl ⟨.inl (.inl hh), fun M hM => ⟨r, .inr ⟨hh, n, nl M hM⟩⟩⟩⟩
        · cases e2
        · cases e2
      cases x with
      | fz d' => cases h; cases e; exact rp rk
      | fr d' =>
        cases h; cases e
        obtain ⟨p, e1, n, nl, o⟩ := rk
        refine ow e1 n (fun M hM z => ?_) o
        rcases hM p z with z | z
        · exact nl z
        · obtain ⟨w, hw, _⟩ := z.there
          rw [nk p e1] at hw; cases hw
      | sl j =>
        simp only at h
        cases e3 : slot ρ j with
        | none => rw [e3] at h; cases h
        | some s =>
          rw [e3] at h
          cases h
          simp only [rd, e3, Option.map_some] at e
          cases e
          obtain ⟨u, hu, ok⟩ := E.val j s e3
          rw [rk.1] at hu
          cases hu
          cases s with
          | fz d => exact rp ok
          | ow d =>
            obtain ⟨p, e1, n, o⟩ := ok
            subst e1
            refine ow rfl n (fun M hM z => ?_) o
            rcases hM p z with z | z
            · exact (lock_ok E (some j)).2.2 j _ p rfl e3 rfl rk.1 z
            · exact (z.go g.toGo).1.own ⟨j, _, e3, rfl, rk.1⟩
          | ln d =>
            obtain ⟨p, e1, n, o⟩ := ok
            subst e1
            refine ow rfl n (fun M hM z => ?_) o
            rcases hM p z with z | z
            · exact (lock_ok E (some j)).2.2 j _ p rfl e3 rfl rk.1 z
            · exact (z.go g.toGo).1.own ⟨j, _, e3, rfl, rk.1⟩
          | lk d =>
            rcases ok with ok | ⟨p, e1, n, nl, o⟩
            · exact rp ok
            · subst e1
              by_cases f : Foreign T G0 H0 ρ0 σ p
              · exact rp ((f.go g.toGo).1.nolk j d e3 rk.1)
              · exact ow rfl n (fun M hM z => (hM p z).elim nl f) o
      | bo j => cases e
      | le j => cases e
      | gv d => cases e
      | st _ => cases e
      | ls _ => cases e
      | its _ _ => cases e
def noSetE : Expr → Bool
  | .Set _ _ _ => false
  | _ => true
theorem noSet_fs {e : Expr} (h : noSetE e = true) (env : PySem.Env) : ∀ x, foldedSetIterable e env x = pure x := fun x => by
  cases e <;> first | rfl | cases h
theorem si_p (O : XOk T W X) {tg e : Expr} {A : Ev.E} (ha : SE T W X p e A) (hs : noSetE e = true) : SI T W X p tg e (.itP A) := by
  refine ⟨(pi_seq ha.pe).imp fun σ H R ⟨G, ρ, E, h⟩ => ?_, noSet_fs hs _⟩
  unfold ev at h
  have h' : Run T W G H ρ σ (ev p A ρ) fun x ρ1 v G1 H1 => ∃ a, v = .ref a ∧ (((∃ xs, SqL X.K H1 a xs) ∧ R (Itl X.K a) H1) ∨ ((∃ xs, SqT X.K H1 a xs) ∧ R (Itt X.K a) H1)) := by
    cases er : ev p A ρ with
    | ok r ρ' =>
      rw [er] at h
      intro v G1 H1 g rk nk
      have key : ∀ x, RunI T W G H ρ σ (match walkOf x ρ' with | some (l, k) => .ok (.its l k) ρ' | none => .no) (fun _ _ _ _ H' J _ => R J H') → ResOk T.fa T.K G1 H1 ρ' σ v x → NewOk H v x → ∃ a, v = .ref a ∧ (((∃ xs, SqL X.K H1 a xs) ∧ R (Itl X.K a) H1) ∨ ((∃ xs, SqT X.K H1 a xs) ∧ R (Itt X.K a) H1)) := fun x hx rk nk => by
        cases ew : walkOf x ρ' with
        | none => rw [ew] at hx; exact hx.elim
        | some q =>
          obtain ⟨l, k⟩ := q
          rw [ew] at hx
          obtain ⟨a, vs, e1, h2⟩ := walk_ok g rk nk ew
          rw [O.K]
          rcases h2 with ⟨h2, h3⟩ | ⟨h2, h3⟩
          · exact ⟨a, e1, .inl ⟨⟨vs, h2⟩, hx _ _ G1 H1 g (wk_list a vs l) h3⟩⟩
          · exact ⟨a, e1, .inr ⟨⟨vs, h2⟩, hx _ _ G1 H1 g (wk_tup a vs l) fun M _ => h3 M⟩⟩
      cases r with
      | fz d => exact key _ h rk nk
      | fr d => exact key _ h rk nk
      | sl j => exact key _ h rk nk
      | _ => exact h.elim
    | ex c d ρ' => rw [er] at h; exact h
    | no => rw [er] at h; exact h.elim
  exact ⟨G, ρ, E, h'⟩
/-! ### range -/
def iRngA (ta : TA) : TI := fun σ H R => ta σ H fun vs H1 => (∃ j : Int, vs = [.int j] ∧ -(2 ^ 62) ≤ j ∧ j < 2 ^ 62 ∧ R (Itr 0 j.toNat) H1) ∨ (∃ i j : Int, vs = [.int i, .int j] ∧ (-(2 ^ 62) ≤ i ∧ i < 2 ^ 62 ∧ -(2 ^ 62) ≤ j ∧ j < 2 ^ 62) ∧ R (Itr i (j - i).toNat) H1) ∨ (∃ i j : Int, vs = [.int i, .int j, .int (-1)] ∧ (-(2 ^ 62) ≤ i ∧ i < 2 ^ 62 ∧ -(2 ^ 62) ≤ j ∧ j < 2 ^ 62) ∧ R (Itc i (-1) (i - j).toNat) H1)
theorem pi_rangeA {tg e : Expr} {es : List Expr} {ta : TA} {q pos : Pos} (hg : Gl X "range") (hm : X.mg "range" = none) (ha : PA X (e :: es) ta) (ns : (e :: es).all noStar = true) : PI X tg (.Call (.Name "range" q) (e :: es) [] pos) (iRngA ta) := by
  rw [List.all_cons, Bool.and_eq_true] at ns
  refine ⟨fun pins s σ H R I h => ?_⟩
  refine PyProof.Rows.Call_ (ld_blt I hg hm PyProof.Rows.boot_range (PyProof.Rows.callWith_type1 (thn (ha.run pos pins s σ H _ I h) fun us s1 ⟨vs, H1, I1, r1, q1⟩ => ?_) (star1 ns.1 _) (plain_star ns.2 _)))
  rcases q1 with ⟨n, rfl, b1, b2, q1⟩ | ⟨i, j, rfl, ⟨b1, b2, b3, b4⟩, q1⟩ | ⟨i, j, rfl, ⟨b1, b2, b3, b4⟩, q1⟩
  · obtain ⟨u, rfl, t, rfl⟩ := vals1 r1
    exact PySem.call_range_1 (range_it I1 (by omega) (by omega) b1 b2 (by simpa using q1))
  · obtain ⟨u, w, rfl, ⟨t, rfl⟩, ⟨t', rfl⟩⟩ := vals2 r1
    exact PySem.call_range_2 (range_it I1 b1 b2 b3 b4 q1)
  · cases r1 with
    | cons r rr =>
      cases rr with
      | cons r' rr =>
        cases rr with
        | cons r'' rr =>
          cases rr
          obtain ⟨t, rfl⟩ := r
          obtain ⟨t', rfl⟩ := r'
          obtain ⟨t'', rfl⟩ := r''
          obtain ⟨c0, c1, c2, c3⟩ := RgC.neg b1 b2 b3 b4
          refine PySem.call_range_3 c0 ?_ (.inl (PyProof.noPylong_small c1))
          refine wpAny_pyIter_range (PySem.IsRange.new ..) c2 ?_
          have I2 : Inv X pins σ H1 { s1 with heap := s1.heap.push { cls := .type "range", data := .fields #[.int i t, .int j t', .int (-1) t''] } } := I1.kept (t' := s1.toks) fun b o e => Heap.get?_push_of_some _ e
          refine pi_one (tk := s1.toks) I2 _ (turn_rangeC _ i (-1) (i - j).toNat) ?_ q1
          have e1 : i + ((0 : Nat) : Int) * (-1) = i := by simp
          have e2 : (((i - j).toNat : Nat) : Int) - ((0 : Nat) : Int) = Builtin.Range.rangeSize i j (-1) := by rw [c3]; simp
          show IsRangeIter _ _ (i + ((0 : Nat) : Int) * (-1)) ((((i - j).toNat : Nat) : Int) - ((0 : Nat) : Int)) (-1)
          rw [e1, e2]
          exact Heap.get?_push_size _ rfl
theorem wk_down (i j : Int) : Wk T (Itc i (-1) (i - j).toNat) (upTo (j + 1) (i - j).toNat).reverse (fun _ _ _ => True) where
  keep := fun _ _ _ _ _ _ _ _ => trivial
  go := fun G H L n sb h hi => by rw [List.length_reverse, upTo_length] at hi; exact hi
  stop := fun G H L n sb h hi => by rw [List.length_reverse, upTo_length] at hi; exact hi
  yld := fun G H L n x H' d sb h hd y => by
    obtain ⟨rfl, rfl⟩ := y
    have hi : n < (i - j).toNat := by have := (List.getElem?_eq_some_iff.mp hd).1; rw [List.length_reverse, upTo_length] at this; exact this
    rw [List.getElem?_reverse (by rw [upTo_length]; exact hi), upTo_length, upTo_get _ _ _ (by omega)] at hd
    cases hd
    refine ⟨G, New.refl sb, ?_⟩
    have e : i + (n : Nat) * (-1) = j + 1 + (((i - j).toNat - 1 - n : Nat) : Int) := by omega
    rw [e]
    exact .int _
theorem si_r (O : XOk T W X) {tg e : Expr} {es : List Expr} {A : Ev.E} {q pos : Pos} (hg : Gl X "range") (hm : X.mg "range" = none) (ha : SA T W X p (e :: es) A) : SI T W X p tg (.Call (.Name "range" q) (e :: es) [] pos) (.itR A) := by
  refine ⟨(pi_rangeA hg hm ha.pa ha.ns).imp fun σ H R ⟨G, ρ, E, h⟩ => ?_, fun x => rfl⟩
  unfold ev at h
  refine ⟨G, ρ, E, ?_⟩
  cases er : ev p A ρ with
  | ok r ρ' =>
    rw [er] at h
    cases r with
    | ls l =>
      intro vs G1 H1 g ra na
      have h' : RunI T W G H ρ σ (match (rdAll l ρ').bind rangeA with | some l => .ok (.its l none) ρ' | none => .no) (fun _ _ _ _ H' J _ => R J H') := h
      cases e1 : rdAll l ρ' with
      | none => rw [e1] at h'; exact h'.elim
      | some ds =>
        rw [e1] at h'
        simp only [Option.bind_some] at h'
        have hra := rdAll_ok g.env ra e1
        cases e2 : rangeA ds with
        | none => rw [e2] at h'; exact h'.elim
        | some ns =>
          rw [e2] at h'
          unfold rangeA at e2
          split at e2
          · rename_i i j c
            split at e2
            · rename_i hz
              unfold P62 at hz
              simp only [Bool.and_eq_true, decide_eq_true_eq] at hz
              obtain ⟨hz, rfl⟩ := hz
              cases e2
              cases vals_int3 hra
              exact .inr (.inr ⟨i, j, rfl, by omega, h' _ _ G1 H1 g (wk_down i j) (fun _ _ => trivial)⟩)
            · cases e2
          · rcases rangeD_two e2 with ⟨j, rfl, b1, b2, ed⟩ | ⟨i, j, rfl, hb, ed⟩
            · cases vals_int1 hra
              subst ed
              exact .inl ⟨j, rfl, b1, b2, h' _ _ G1 H1 g (wk_rng 0 j.toNat) (fun _ _ => trivial)⟩
            · cases vals_int2 hra
              subst ed
              exact .inr (.inl ⟨i, j, rfl, hb, h' _ _ G1 H1 g (wk_rng i (j - i).toNat) (fun _ _ => trivial)⟩)
    | _ => exact h.elim
  | ex c d ρ' => rw [er] at h; exact h
  | no => rw [er] at h; exact h.elim
end
end Ev
end

section
set_option Elab.async false
set_option linter.all false
set_option maxRecDepth 100000
set_option maxHeartbeats 1000000
/-! EvN: list comprehensions. -/
namespace Ev
open PySem PySem.Spec L2

section
variable {T : Tb} {W : WX} {X : Cx} {p : Par} {fa : Fa} {K : PySem.W.Frag} {G0 G G1 G' H H1 H' : Hp} {ρ ρ' ρ1 : Ev.Env} {σ σ' σ1 : L2.St} {v : V} {d : Ev.D}
/-- a new thing that no name holds is written -/
theorem write_new (E : EnvOk fa K G0 G H ρ σ) {D : Addr} {o : HO} (n : G D = none) (l : ¬ Lof ρ σ D) (nl : ∀ j d, slot ρ j = some (.lk d) → σ[j]? = some (some (.ref D)) → Rp fa K G (.ref D) d) : EnvOk fa K G0 G (upd H D o) ρ σ := by
  refine ⟨E.sub.out n, E.low, E.len, fun i s h => ?_, E.inj⟩
  obtain ⟨v, hv, ok⟩ := E.val i s h
  refine ⟨v, hv, ?_⟩
  have own : ∀ {q : Addr} {d : Ev.D}, q ≠ D → Own fa K G H q d → Own fa K G (upd H D o) q d := fun ne o => o.step (Sub.refl _) (upd_ne ne)
  cases s with
  | fz d => exact ok
  | ow d =>
    obtain ⟨q, e, n', o'⟩ := ok
    subst e
    exact ⟨q, rfl, n', own (fun z => l ⟨i, _, h, rfl, by rw [hv, z]⟩) o'⟩
  | ln d =>
    obtain ⟨q, e, n', o'⟩ := ok
    subst e
    exact ⟨q, rfl, n', own (fun z => l ⟨i, _, h, rfl, by rw [hv, z]⟩) o'⟩
  | lk d =>
    rcases ok with ok | ⟨q, e, n', l', o'⟩
    · exact .inl ok
    · subst e
      by_cases z : q = D
      · subst z; exact .inl (nl i d h hv)
      · exact .inr ⟨q, rfl, n', l', own z o'⟩
/-- a list that grows, while the block runs -/
structure LS (T : Tb) (D : Addr) (Gb Hb : Hp) (ρb : Ev.Env) (σb : L2.St) (acc : List Ev.D) (G H : Hp) (ρ : Ev.Env) (σ : L2.St) : Prop where
  env : T.Env G H ρ σ
  step : Step (Lof ρb σb) (Lof ρ σ) Gb Hb G H
  fix : Fix ρb ρ σb σ
  acc : ∃ vs, H D = some (.lst vs) ∧ RpA T.fa T.K G vs acc
  non : G D = .none
  own : ¬ Lof ρ σ D
  nolk : ∀ j d, slot ρ j = some (.lk d) → σ[j]? = some (some (.ref D)) → Rp T.fa T.K G (.ref D) d
variable {D : Addr} {Gb Hb : Hp} {ρb : Ev.Env} {σb : L2.St} {acc : List Ev.D}
theorem LS.go (s : LS T D Gb Hb ρb σb acc G H ρ σ) (g : Go T G H ρ σ G' H' ρ' σ') : LS T D Gb Hb ρb σb acc G' H' ρ' σ' := by
  obtain ⟨vs, hv, r⟩ := s.acc
  obtain ⟨e1, e2, e3⟩ := g.step.at' hv (fun xs z => by cases z) s.non s.own
  refine ⟨g.env, s.step.trans g.step, s.fix.trans g.fix, ⟨vs, e1.trans hv, r.mono g.step.mono⟩, e2, e3, fun j d h1 h2 => ?_⟩
  obtain ⟨_, k2, k3⟩ := g.fix j (by rw [h1]; exact Nat.one_ne_zero)
  exact (s.nolk j d (by rw [← k3 (by rw [h1]; rfl)]; exact h1) (by rw [← k2]; exact h2)).mono g.step.mono
theorem Step.updNew {L L' : Addr → Prop} {D : Addr} {o : HO} (s : Step L L' G H G' H') (h : H D = none) : Step L L' G H G' (upd H' D o) :=
  ⟨s.mono, fun a q1 q2 q3 => by
    have ne : a ≠ D := fun z => q1 (by rw [z]; exact h)
    rw [upd_ne ne]
    exact s.keep a q1 q2 q3, fun a q => by
    have ne : a ≠ D := fun z => q (by rw [z]; exact h)
    rw [upd_ne ne]
    exact s.dom a q, fun a xs q1 q3 => by
    have ne : a ≠ D := fun z => by rw [z, h] at q1; cases q1
    rw [upd_ne ne]
    exact s.still a xs q1 q3⟩
theorem LS.push (s : LS T D Gb Hb ρb σb acc G H ρ σ) (hD : Hb D = none) (r : Rp T.fa T.K G v d) : ∃ vs, H D = some (.lst vs) ∧ vs.length = acc.length ∧ LS T D Gb Hb ρb σb (acc ++ [d]) G (upd H D (.lst (vs ++ [v]))) ρ σ := by
  obtain ⟨vs, hv, ra⟩ := s.acc
  exact ⟨vs, hv, ra.length, write_new s.env s.non s.own s.nolk, s.step.updNew hD, s.fix, ⟨vs ++ [v], upd_same, ra.append (.cons r .nil)⟩, s.non, s.own, s.nolk⟩
theorem hide_fix (vs : List Nat) : Fix ρ (hide vs ρ) σ (wipe σ vs) := fun i h => by
  rw [hide_slot] at h ⊢
  by_cases e : i ∈ vs
  · rw [if_pos e] at h; exact absurd rfl h
  · rw [if_neg e] at h ⊢
    exact ⟨rfl, wipe_get vs σ i e, fun _ => rfl⟩
theorem hide_go (E : T.Env G H ρ σ) (vs : List Nat) : Go T G H ρ σ G H (hide vs ρ) (wipe σ vs) := by
  obtain ⟨h1, h2⟩ := hide_ok E vs
  exact ⟨h1, (Step.refl _ G H).weak h2, hide_fix vs⟩
theorem LS.start (E : T.Env G H ρ σ) (hD : H D = none) : LS T D G H ρ σ [] G (upd H D (.lst [])) ρ σ := by
  have n : New T G H G (upd H D (.lst [])) := New.own E.sub hD
  have g := n.go E
  refine ⟨g.env, g.step, g.fix, ⟨[], upd_same, .nil⟩, E.sub.none hD, fun z => (E.lof z).1 hD, fun j d h1 h2 => ?_⟩
  obtain ⟨u, hu, ok⟩ := E.val j _ h1
  rw [h2] at hu
  cases hu
  rcases ok with ok | ⟨q, e, _, _, o⟩
  · exact ok
  · cases e
    obtain ⟨w, hw, _⟩ := o.there
    rw [hD] at hw; cases hw
theorem wipe_eq {vs : List Nat} {σ σ' : L2.St} (hl : σ'.length = σ.length) (h : ∀ i, i ∉ vs → σ'[i]? = σ[i]?) : wipe σ' vs = wipe σ vs := by
  have key : ∀ (vs : List Nat) (σ : L2.St) (i : Nat), (wipe σ vs)[i]? = if i ∈ vs ∧ i < σ.length then some none else σ[i]? := fun vs => by
    induction vs with
    | nil => intro σ i; simp [wipe]
    | cons v vs ih =>
      intro σ i
      unfold wipe
      rw [List.getElem?_set, wipe_length]
      by_cases e : v = i
      · subst e
        by_cases q : v < σ.length
        · simp [q]
        · simp [q, List.getElem?_eq_none (Nat.le_of_not_lt q)]
      · have e' : ¬ i = v := fun z => e z.symm
        simp only [e, if_false, ih σ i, List.mem_cons, e', false_or]
  refine List.ext_getElem? fun i => ?_
  rw [key, key, hl]
  by_cases e : i ∈ vs
  · by_cases q : i < σ.length
    · simp [e, q]
    · simp [e, q, List.getElem?_eq_none (Nat.le_of_not_lt q), List.getElem?_eq_none (Nat.le_of_not_lt (by rw [hl]; exact q) : σ'.length ≤ i)]
  · simp [e, h i e]
theorem wipe_wipe (vs : List Nat) (σ : L2.St) : wipe (wipe σ vs) vs = wipe σ vs := wipe_eq (wipe_length σ vs) fun i h => wipe_get vs σ i h

/-! ### the block's parts -/
/-- a clause's tests are as told -/
structure SF (T : Tb) (W : WX) (X : Cx) (p : Par) (es : List Expr) (E : Ev.E) : Prop where
  pt : PTs X es (TTv T W (ev p E))
theorem sf_nil : SF T W X p [] (.bl true) := ⟨⟨fun pins s σ H Q I ⟨G, ρ, E, h⟩ => pts_nil.run pins s σ H Q I (by
  obtain ⟨b, hb, q⟩ := h (.bl true) G H (GoE.refl E) (.bl true) trivial
  cases hb
  exact q)⟩⟩
theorem sf_one {e : Expr} {E : Ev.E} (h : SE T W X p e E) : SF T W X p [e] E := ⟨pts_one h.pt⟩
theorem Run.bi {r : R} {k : List Ev.D → Option Nat → Ev.Env → R} {Q : Rs → Ev.Env → V → Hp → Hp → Prop} (h : Run T W G H ρ σ (r.bi k) Q) : RunI T W G H ρ σ r fun l n ρ1 _ _ _ _ => Run T W G H ρ σ (k l n ρ1) Q := by
  cases r with
  | ok r ρ' =>
    cases r <;> first
      | exact fun J S G' H' g wk s => h
      | exact absurd h (by intro z; exact z)
  | ex c d ρ' => exact h
  | no => exact h
theorem RunI.mono {r : R} {Q Q' : List Ev.D → Option Nat → Ev.Env → Hp → Hp → It → (Hp → Hp → (Addr → Prop) → Prop) → Prop} (h : RunI T W G H ρ σ r Q)
    (m : ∀ l k ρ' G' H' J S, GoE T G H ρ σ G' H' ρ' → Wk T J l S → (∀ M : Addr → Prop, (∀ a, M a → Lof (lock k ρ') σ a ∨ Foreign T G H ρ σ a) → S G' H' M) → Q l k ρ' G' H' J S → Q' l k ρ' G' H' J S) : RunI T W G H ρ σ r Q' := by
  cases r with
  | ok r ρ' =>
    cases r <;> first
      | exact fun J S G' H' g wk s => m _ _ _ _ _ _ _ g wk s (h J S G' H' g wk s)
      | exact h
  | ex c d ρ' => exact h
  | no => exact h
/-- a test that comes to an answer, read -/
theorem test_read {f : Ev.Env → R} {b : Bool} {W0 : WX} {Q : Bool → Hp → Prop} (E : T.Env G H ρ σ) (h : testOf (f ρ) = some (b, ρ')) (q : ∀ G' H', Go T G H ρ σ G' H' ρ' σ → (∀ i, (slot ρ i).isSome = true → (slot ρ' i).isSome = true) → Q b H') : TTv T W0 f σ H Q := by
  refine ⟨G, ρ, E, ?_⟩
  cases er : f ρ with
  | ok r ρ1 =>
    rw [er] at h
    unfold testOf at h
    simp only at h
    obtain ⟨c, h1, h2⟩ := Option.map_eq_some_iff.mp h
    cases h2
    exact fun v G' H' g rk nk => ⟨b, h1, q G' H' g.toGo g.some⟩
  | ex c d ρ1 => rw [er] at h; cases h
  | no => rw [er] at h; cases h
/-- a value that is kept, read -/
theorem keep_read {f : Ev.Env → R} {y : Rs} {ρ2 : Ev.Env} {W0 : WX} {Q : V → Hp → Prop} (E : T.Env G H ρ σ) (h : f ρ = .ok y ρ1) (h2 : tk y ρ1 = some (d, ρ2))
    (q : ∀ G' H' v, Go T G H ρ σ G' H' ρ2 σ → (∀ i, (slot ρ i).isSome = true → (slot ρ2 i).isSome = true) → Rp T.fa T.K G' v d → Q v H') : TEv T W0 f σ H Q := by
  refine ⟨G, ρ, E, ?_⟩
  rw [h]
  intro v G1 H1 g rk nk
  obtain ⟨G2, g2, r2, _⟩ := keep1 g rk nk h2
  exact q G2 H1 v g2.toGo g2.some r2
theorem LS.foreign (s : LS T D Gb Hb ρb σb acc G H ρ σ) : Foreign T G H ρ σ D := by
  obtain ⟨vs, hv, _⟩ := s.acc
  exact ⟨⟨_, hv, fun xs z => by cases z⟩, s.non, s.own, s.nolk⟩
theorem Step.add {L L' : Addr → Prop} (M : Addr → Prop) (s : Step L L' G H G' H') : Step (fun a => L a ∨ M a) (fun a => L' a ∨ M a) G H G' H' :=
  ⟨s.mono, fun a q1 q2 q3 => by
    obtain ⟨f1, f2, f3⟩ := s.keep a q1 q2 fun z => q3 (.inl z)
    exact ⟨f1, f2, fun z => z.elim f3 fun w => q3 (.inr w)⟩, s.dom, fun a xs q1 q3 => by
    obtain ⟨f1, f3⟩ := s.still a xs q1 fun z => q3 (.inl z)
    exact ⟨f1, fun z => z.elim f3 fun w => q3 (.inr w)⟩⟩
theorem Step.push {L : Addr → Prop} {D : Addr} {o : HO} : Step (fun a => L a ∨ a = D) (fun a => L a ∨ a = D) G H G (upd H D o) :=
  ⟨Sub.refl _, fun a q1 q2 q3 => ⟨upd_ne fun z => q3 (.inr z), .inl q2, q3⟩, fun a q => by
    by_cases e : a = D
    · rw [e, upd_same]; simp
    · rw [upd_ne e]; exact q, fun a xs q1 q3 => ⟨upd_ne fun z => q3 (.inr z), q3⟩⟩
theorem lcGo_shape {g : Ev.G} {test : Ev.Env → Option (Bool × Ev.Env)} {elt : Ev.Env → R} {vs : List Nat} : ∀ {l : List Ev.D} {acc : List Ev.D} {ρ ρ' : Ev.Env} {r : Rs}, lcGo g test elt vs l acc ρ = .ok r ρ' → ∃ accF, r = .fr (.lst accF)
  | [], acc, ρ, ρ', r, h => by cases h; exact ⟨acc, rfl⟩
  | x :: l, acc, ρ, ρ', r, h => by
    unfold lcGo at h
    cases e1 : asgG g x false (hide vs ρ) with
    | none => rw [e1] at h; cases h
    | some ρ1 =>
      simp only [e1] at h
      cases e2 : test ρ1 with
      | none => rw [e2] at h; cases h
      | some q =>
        obtain ⟨b, ρ2⟩ := q
        rw [e2] at h
        cases b with
        | false => exact lcGo_shape h
        | true =>
          simp only at h
          cases e3 : elt ρ2 with
          | ok y ρ3 =>
            simp only [e3] at h
            cases e4 : tk y ρ3 with
            | none => rw [e4] at h; cases h
            | some q =>
              obtain ⟨d, ρ4⟩ := q
              simp only [e4] at h
              split at h
              · exact lcGo_shape h
              · cases h
          | ex c d ρ3 => rw [e3] at h; cases h
          | no => rw [e3] at h; cases h
theorem asg_len : ∀ {g : Ev.G} {d : Ev.D} {ρ ρ' : Ev.Env}, asgG g d false ρ = some ρ' → ρ'.length = ρ.length := fun {g} => by
  have key : ∀ g : Ev.G, (∀ (d : Ev.D) (ρ ρ' : Ev.Env), asgG g d false ρ = some ρ' → ρ'.length = ρ.length) ∧ (∀ (ds : List Ev.D) (ρ ρ' : Ev.Env), asgG.asgGs g ds ρ = some ρ' → ρ'.length = ρ.length) := fun g => by
    induction g with
    | nm i own =>
      refine ⟨fun d ρ ρ' h => ?_, fun ds ρ ρ' h => (by cases ds <;> cases h)⟩
      rw [asgG_nm] at h
      obtain ⟨_, rfl, _⟩ := put_ok h
      rw [List.length_set]
    | nil =>
      refine ⟨fun d ρ ρ' h => (by unfold asgG at h; cases h), fun ds ρ ρ' h => ?_⟩
      cases ds with
      | nil => cases h; rfl
      | cons d ds => cases h
    | cons a b iha ihb =>
      refine ⟨fun d ρ ρ' h => (by unfold asgG at h; cases h), fun ds ρ ρ' h => ?_⟩
      cases ds with
      | nil => cases h
      | cons d ds =>
        unfold asgG.asgGs at h
        cases e1 : asgG a d false ρ with
        | none => rw [e1] at h; cases h
        | some ρ1 =>
          rw [e1] at h
          exact (ihb.2 ds ρ1 ρ' h).trans (iha.1 d ρ ρ1 e1)
    | tup l ih =>
      refine ⟨fun d ρ ρ' h => ?_, fun ds ρ ρ' h => (by cases ds <;> cases h)⟩
      cases d with
      | tup ds => unfold asgG at h; exact ih.2 ds ρ ρ' h
      | ktp ds => unfold asgG at h; exact ih.2 ds ρ ρ' h
      | _ => unfold asgG at h; cases h
  exact fun {d ρ ρ'} h => (key g).1 d ρ ρ' h
theorem lc_loop {Wf : WX} (hDb : Hb D = none) {g : Ev.G} {ft fe : Ev.Env → R} {vs : List Nat} {σi : L2.St} (hw : wipe σi vs = σi) (hgv : ∀ i ∈ gv g, i ∈ vs) {J : It} {l : List Ev.D} {S : Hp → Hp → (Addr → Prop) → Prop} (wk : Wk T J l S)
    {Gw Hw : Hp} {ρw : Ev.Env} {acc0 accF : List Ev.D} {ρF : Ev.Env} (S0 : S Gw Hw (fun a => Lof (hide vs ρw) σi a ∨ a = D)) (s0 : LS T D Gb Hb ρb σb acc0 Gw Hw (hide vs ρw) σi)
    (hres : lcGo g (fun ρ => testOf (ft ρ)) fe vs l acc0 ρw = .ok (.fr (.lst accF)) ρF) {Qend : Hp → Prop}
    (fin : ∀ G H, LS T D Gb Hb ρb σb accF G H (hide vs ρF) σi → Step (fun a => Lof (hide vs ρw) σi a ∨ a = D) (fun a => Lof (hide vs ρF) σi a ∨ a = D) Gw Hw G H → (∀ i, i ∉ vs → (slot ρw i).isSome = true → (slot ρF i).isSome = true) → Qend H) :
    ∃ Wp : Nat → Nat → Hp → Prop, (∃ m, Wp 0 m Hw) ∧ ∀ i m H, Wp i m H → (J.stop i H ∧ Qend H) ∨ (J.go i H ∧ ∃ Nx : Hp → Prop, (∀ H', Nx H' → ∃ m', m' < m ∧ Wp (i + 1) m' H') ∧ ∀ x H', J.yld i H x H' →
      TGv T g x σi H' fun σ2 H2 => wipe σ2 vs = σi ∧ TTv T Wf ft σ2 H2 fun b H3 => if b = true then TEv T Wf fe σ2 H3 fun y H4 => ∃ acc, H4 D = some (.lst acc) ∧ acc.length < sizeLine ∧ Nx (upd H4 D (.lst (acc ++ [y]))) else Nx H3) := by
  let St : Nat → Hp → Prop := fun i H => ∃ G ρ acc, LS T D Gb Hb ρb σb acc G H (hide vs ρ) σi ∧ Step (fun a => Lof (hide vs ρw) σi a ∨ a = D) (fun a => Lof (hide vs ρ) σi a ∨ a = D) Gw Hw G H ∧ (∀ i, i ∉ vs → (slot ρw i).isSome = true → (slot ρ i).isSome = true) ∧ lcGo g (fun ρ => testOf (ft ρ)) fe vs (l.drop i) acc ρ = .ok (.fr (.lst accF)) ρF
  refine ⟨fun i m H => m = l.length - i ∧ i ≤ l.length ∧ St i H, ⟨l.length, by simp, Nat.zero_le _, Gw, ρw, acc0, s0, Step.refl _ _ _, fun _ _ h => h, by simpa using hres⟩, ?_⟩
  rintro i m H ⟨rfl, hi, G, ρ, acc, s, sw, so, hr⟩
  have Sc := wk.keep _ _ _ _ _ _ S0 sw
  by_cases hlt : i < l.length
  · refine .inr ⟨wk.go _ _ _ _ s.env.sub Sc hlt, St (i + 1), fun H' h' => ⟨l.length - (i + 1), by omega, rfl, hlt, h'⟩, fun x H' y => ?_⟩
    have hd : l[i]? = some l[i] := by simp [hlt]
    obtain ⟨G', n, rx⟩ := wk.yld _ _ _ _ _ _ _ s.env.sub Sc hd y
    have g1 := n.go s.env
    rw [List.drop_eq_getElem_cons hlt] at hr
    unfold lcGo at hr
    cases e1 : asgG g l[i] false (hide vs ρ) with
    | none => rw [e1] at hr; cases hr
    | some ρ1 =>
      simp only [e1] at hr
      refine ⟨G', hide vs ρ, l[i], ρ1, g1.env, rx, e1, fun σ2 ak => ?_⟩
      have hwi : wipe σ2 vs = σi := by
        rw [wipe_eq (σ := σi) (by rw [← ak.env.len, ← g1.env.len]; exact asg_len e1) fun j hj => (ak.out j fun z => hj (hgv j z)).1, hw]
      refine ⟨hwi, ?_⟩
      -- on to the test
      have s1 := (s.go g1.toGo).go ak.go
      have sw1 := (sw.trans (g1.step.add (fun a => a = D))).trans (ak.go.step.add (fun a => a = D))
      have so1 : ∀ i, i ∉ vs → (slot ρw i).isSome = true → (slot ρ1 i).isSome = true := fun j hj h => by
        have h2 := so j hj h
        rw [(ak.out j fun z => hj (hgv j z)).2, hide_slot, if_neg hj]
        exact h2
      cases e2 : testOf (ft ρ1) with
      | none => rw [e2] at hr; cases hr
      | some q =>
        obtain ⟨b, ρ2⟩ := q
        rw [e2] at hr
        refine test_read ak.env e2 fun G2 H2 g2 so2 => ?_
        have s2 := s1.go g2
        have sw2 := sw1.trans (g2.step.add (fun a => a = D))
        have so2' : ∀ i, i ∉ vs → (slot ρw i).isSome = true → (slot ρ2 i).isSome = true := fun j hj h => so2 j (so1 j hj h)
        -- the turn's end
        have fin1 : ∀ {G3 H3 : Hp} {ρ3 : Ev.Env} {acc3 : List Ev.D}, LS T D Gb Hb ρb σb acc3 G3 H3 ρ3 σ2 → Step (fun a => Lof (hide vs ρw) σi a ∨ a = D) (fun a => Lof ρ3 σ2 a ∨ a = D) Gw Hw G3 H3 → (∀ i, i ∉ vs → (slot ρw i).isSome = true → (slot ρ3 i).isSome = true) →
            lcGo g (fun ρ => testOf (ft ρ)) fe vs (l.drop (i + 1)) acc3 ρ3 = .ok (.fr (.lst accF)) ρF → St (i + 1) H3 := fun {G3 H3 ρ3 acc3} s3 sw3 so3 hr3 => by
          have hg := hide_go s3.env vs
          rw [hwi] at hg
          refine ⟨G3, ρ3, acc3, s3.go hg, sw3.trans (hg.step.add (fun a => a = D)), so3, hr3⟩
        cases b with
        | false =>
          simp only [Bool.false_eq_true, if_false]
          exact fin1 s2 sw2 so2' hr
        | true =>
          simp only [if_true]
          simp only at hr
          cases e3 : fe ρ2 with
          | ok y3 ρ3 =>
            simp only [e3] at hr
            cases e4 : tk y3 ρ3 with
            | none => rw [e4] at hr; cases hr
            | some q =>
              obtain ⟨d4, ρ4⟩ := q
              simp only [e4] at hr
              split at hr
              · rename_i hz
                refine keep_read s2.env e3 e4 fun G4 H4 v4 g4 so4 r4 => ?_
                have s4 := s2.go g4
                obtain ⟨accV, k1, k2, s5⟩ := s4.push hDb r4
                refine ⟨accV, k1, by rw [k2, ← LIM_eq]; exact hz, ?_⟩
                exact fin1 s5 ((sw2.trans (g4.step.add (fun a => a = D))).trans Step.push) (fun j hj h => so4 j (so2' j hj h)) hr
              · cases hr
          | ex c d ρ3 => rw [e3] at hr; cases hr
          | no => rw [e3] at hr; cases hr
  · have e : i = l.length := by omega
    subst e
    rw [List.drop_length] at hr
    cases hr
    exact .inl ⟨wk.stop _ _ _ _ s.env.sub Sc (Nat.le_refl _), fin G H s sw so⟩
/-! ### behind a block -/
theorem back_length : ∀ (vs : List Nat) (ρ0 ρ : Ev.Env), (back vs ρ0 ρ).length = ρ.length
  | [], _, _ => rfl
  | v :: vs, ρ0, ρ => by unfold back; rw [List.length_set, back_length vs ρ0 ρ]
theorem back_slot : ∀ (vs : List Nat) (ρ0 ρ : Ev.Env) (i : Nat), slot (back vs ρ0 ρ) i = if i ∈ vs then (if i < ρ.length then slot ρ0 i else none) else slot ρ i
  | [], ρ0, ρ, i => by simp [back]
  | v :: vs, ρ0, ρ, i => by
    unfold back
    rw [slot_set', back_slot vs ρ0 ρ i, back_length]
    by_cases e : v = i
    · subst e; simp
    · have e' : ¬ i = v := fun z => e z.symm
      simp [e, e']
theorem unlock_cases (k : Option Nat) (ρ0 ρ : Ev.Env) : (unlock k ρ0 ρ = ρ) ∨ ∃ j s d, k = some j ∧ slot ρ0 j = some s ∧ slot ρ j = some (.lk d) ∧ unlock k ρ0 ρ = ρ.set j (some s) := by
  unfold unlock
  cases k with
  | none => exact .inl rfl
  | some j =>
    simp only
    cases e1 : slot ρ0 j with
    | none => exact .inl rfl
    | some s =>
      cases e2 : slot ρ j with
      | none => exact .inl rfl
      | some t =>
        cases t with
        | lk d => exact .inr ⟨j, s, d, rfl, e1, e2, rfl⟩
        | fz d => exact .inl rfl
        | ow d => exact .inl rfl
        | ln d => exact .inl rfl
theorem unlock_not {k : Option Nat} {ρ0 ρ : Ev.Env} (h : unlock k ρ0 ρ = ρ) {j : Nat} {s : Slot} {d : Ev.D} (e1 : k = some j) (e2 : slot ρ0 j = some s) (e3 : slot ρ j = some (.lk d)) : s = .lk d := by
  subst e1
  unfold unlock at h
  simp only [e2, e3] at h
  have := slot_set (s := some s) (slot_lt e3)
  rw [h, e3] at this
  exact (Option.some.inj this).symm
/-- back from a block to the def's names -/
theorem comp_back {k : Option Nat} {vs : List Nat} {ρF : Ev.Env} (E : T.Env G1 H1 ρ1 σ) (sE : T.Env G H (hide vs ρF) (wipe σ vs)) (sS : Step (Lof (hide vs (lock k ρ1)) (wipe σ vs)) (Lof (hide vs ρF) (wipe σ vs)) G1 H1 G H) (sF : Fix (hide vs (lock k ρ1)) (hide vs ρF) (wipe σ vs) (wipe σ vs)) (sO : ¬ Lof (hide vs ρF) (wipe σ vs) D) (hD : H1 D = .none)
    (so : ∀ i, i ∉ vs → (slot (lock k ρ1) i).isSome = true → (slot ρF i).isSome = true) : GoE T G1 H1 ρ1 σ G H (unlock k ρ1 (back vs ρ1 ρF)) ∧ ¬ Lof (unlock k ρ1 (back vs ρ1 ρF)) σ D := by
  obtain ⟨Ek, Lk, Fk⟩ := lock_ok E k
  obtain ⟨Eh, Lh⟩ := hide_ok Ek vs
  have lenF : ρF.length = ρ1.length := by
    have h1 := sE.len
    rw [hide_length, wipe_length] at h1
    rw [h1, E.len]
  -- the slots behind
  have sl : ∀ i, (i ∈ vs → slot (unlock k ρ1 (back vs ρ1 ρF)) i = slot ρ1 i) ∧ (i ∉ vs → k = some i → (∃ d, slot ρF i = some (.lk d)) → slot (unlock k ρ1 (back vs ρ1 ρF)) i = slot ρ1 i) ∧ (i ∉ vs → ¬ (k = some i ∧ ∃ d, slot ρF i = some (.lk d)) → slot (unlock k ρ1 (back vs ρ1 ρF)) i = slot ρF i) := fun i => by
    have bk := back_slot vs ρ1 ρF i
    have b1 : i ∈ vs → slot (back vs ρ1 ρF) i = slot ρ1 i := fun hi => by
      rw [bk, if_pos hi, lenF]
      by_cases q : i < ρ1.length
      · rw [if_pos q]
      · rw [if_neg q]
        unfold slot
        rw [List.getElem?_eq_none (Nat.le_of_not_lt q)]
    have b2 : i ∉ vs → slot (back vs ρ1 ρF) i = slot ρF i := fun hi => by rw [bk, if_neg hi]
    rcases unlock_cases k ρ1 (back vs ρ1 ρF) with e | ⟨j, s', d, e1, e2, e3, e4⟩
    · rw [e]
      refine ⟨b1, fun hi hk ⟨d, hd⟩ => ?_, fun hi _ => b2 hi⟩
      rw [b2 hi, hd]
      -- the name's slot was there ahead of it
      have hk1 : kindOf (slot (hide vs ρF) i) = 1 := by rw [hide_slot, if_neg hi, hd]; rfl
      obtain ⟨_, _, q3⟩ := sF i (by rw [hk1]; exact Nat.one_ne_zero)
      have q4 := q3 hk1
      rw [hide_slot, if_neg hi, hide_slot, if_neg hi, lock_slot, if_pos hk, hd] at q4
      cases q5 : slot ρ1 i with
      | none => rw [q5] at q4; cases q4
      | some t =>
        have := unlock_not e hk q5 (by rw [b2 hi]; exact hd)
        rw [this]
    · rw [e4]
      have hj : j < (back vs ρ1 ρF).length := slot_lt e3
      refine ⟨fun hi => ?_, fun hi hk _ => ?_, fun hi hn => ?_⟩
      · rw [slot_set', b1 hi]
        by_cases z : j = i
        · subst z; rw [if_pos rfl, if_pos hj, e2]
        · rw [if_neg z]
      · rw [e1] at hk
        cases hk
        rw [slot_set hj, e2]
      · rw [slot_set', b2 hi]
        by_cases z : j = i
        · subst z
          exact absurd ⟨e1, d, by rw [← b2 hi]; exact e3⟩ hn
        · rw [if_neg z]
  have lenU : (unlock k ρ1 (back vs ρ1 ρF)).length = σ.length := by
    rcases unlock_cases k ρ1 (back vs ρ1 ρF) with e | ⟨j, s', d, e1, e2, e3, e4⟩
    · rw [e, back_length, lenF, E.len]
    · rw [e4, List.length_set, back_length, lenF, E.len]
  have hL : ∀ a, Lof (hide vs (lock k ρ1)) (wipe σ vs) a → Lof ρ1 σ a := fun a z => Lk a (Lh a z)
  -- what is not locked, of the names outside
  have out : ∀ i, i ∉ vs → ¬ (k = some i ∧ ∃ d, slot ρF i = some (.lk d)) → kindOf (slot ρF i) = 1 → slot ρ1 i = slot ρF i := fun i hi hn hk => by
    have hk1 : kindOf (slot (hide vs ρF) i) = 1 := by rw [hide_slot, if_neg hi]; exact hk
    obtain ⟨_, _, q3⟩ := sF i (by rw [hk1]; exact Nat.one_ne_zero)
    have q4 := q3 hk1
    rw [hide_slot, if_neg hi, hide_slot, if_neg hi, lock_slot] at q4
    by_cases z : k = some i
    · exfalso
      refine hn ⟨z, ?_⟩
      cases q5 : slot ρF i with
      | none => rw [q5] at hk; cases hk
      | some t =>
        rw [q5] at hk
        cases t with
        | lk d => exact ⟨d, rfl⟩
        | fz d => cases hk
        | ow d => cases hk
        | ln d => cases hk
    · rw [if_neg z] at q4
      exact q4.symm
  obtain ⟨r1, r2⟩ := restore (ρ2 := unlock k ρ1 (back vs ρ1 ρF)) (σ2 := σ) E sE sS hL (fun i => i ∈ vs ∨ (k = some i ∧ ∃ d, slot ρF i = some (.lk d))) lenU
    (fun i hi t ht => by
      have e : slot (unlock k ρ1 (back vs ρ1 ρF)) i = slot ρ1 i := by
        by_cases q : i ∈ vs
        · exact (sl i).1 q
        · rcases hi with hi | ⟨h1, h2⟩
          · exact absurd hi q
          · exact (sl i).2.1 q h1 h2
      rw [e] at ht
      refine ⟨ht, rfl, fun hs a ha z => ?_⟩
      rcases hi with hi | ⟨h1, h2⟩
      · obtain ⟨j, t', z1, z2, z3⟩ := z
        rw [hide_slot] at z1
        by_cases q : j ∈ vs
        · rw [if_pos q] at z1; cases z1
        · rw [if_neg q, lock_slot] at z1
          by_cases q2 : k = some j
          · rw [if_pos q2] at z1
            obtain ⟨_, _, rfl⟩ := Option.map_eq_some_iff.mp z1
            cases z2
          · rw [if_neg q2] at z1
            rw [wipe_get vs σ j q] at z3
            have := E.inj i j t t' ht z1 hs z2 (by rw [ha, z3])
            subst this
            exact q hi
      · exact Fk i t a h1 ht hs ha (Lh a z))
    (fun i hi => by
      rw [not_or] at hi
      refine ⟨?_, (wipe_get vs σ i hi.1).symm⟩
      rw [(sl i).2.2 hi.1 hi.2, hide_slot, if_neg hi.1])
    (fun i hi hk => by
      rw [not_or] at hi
      rw [hide_slot, if_neg hi.1] at hk ⊢
      exact ⟨out i hi.1 hi.2 hk, wipe_get vs σ i hi.1⟩)
  refine ⟨⟨⟨r1, r2, fun i hi => ?_⟩, fun i hi => ?_⟩, fun ⟨i, t, z1, z2, z3⟩ => ?_⟩
  · by_cases q : i ∈ vs
    · rw [(sl i).1 q]; exact ⟨rfl, rfl, fun _ => rfl⟩
    · by_cases q2 : k = some i ∧ ∃ d, slot ρF i = some (.lk d)
      · rw [(sl i).2.1 q q2.1 q2.2]; exact ⟨rfl, rfl, fun _ => rfl⟩
      · rw [(sl i).2.2 q q2] at hi ⊢
        have hh : kindOf (slot (hide vs ρF) i) ≠ 0 := by rw [hide_slot, if_neg q]; exact hi
        obtain ⟨q3, _, _⟩ := sF i hh
        rw [hide_slot, if_neg q, hide_slot, if_neg q, lock_slot] at q3
        by_cases z : k = some i
        · rw [if_pos z] at q3
          cases q5 : slot ρF i with
          | none => rw [q5] at hi; exact absurd rfl hi
          | some t =>
            rw [q5] at q3 hi
            cases q6 : slot ρ1 i with
            | none => rw [q6] at q3; cases t <;> first | exact absurd rfl hi | cases q3
            | some t' =>
              rw [q6] at q3
              cases t with
              | lk d => exact absurd ⟨z, d, q5⟩ q2
              | fz d => exact absurd rfl hi
              | ow d => exact absurd rfl hi
              | ln d => cases q3
        · rw [if_neg z] at q3
          exact ⟨q3, rfl, fun h => (out i q q2 h).symm⟩
  · by_cases q : i ∈ vs
    · rw [(sl i).1 q]; exact hi
    · by_cases q2 : k = some i ∧ ∃ d, slot ρF i = some (.lk d)
      · rw [(sl i).2.1 q q2.1 q2.2]; exact hi
      · rw [(sl i).2.2 q q2]
        refine so i q ?_
        rw [lock_slot]
        by_cases z : k = some i
        · rw [if_pos z, Option.isSome_map]; exact hi
        · rw [if_neg z]; exact hi
  · by_cases q : i ∈ vs
    · rw [(sl i).1 q] at z1
      exact (E.lof ⟨i, t, z1, z2, z3⟩).1 hD
    · by_cases q2 : k = some i ∧ ∃ d, slot ρF i = some (.lk d)
      · rw [(sl i).2.1 q q2.1 q2.2] at z1
        exact (E.lof ⟨i, t, z1, z2, z3⟩).1 hD
      · rw [(sl i).2.2 q q2] at z1
        exact sO ⟨i, t, by rw [hide_slot, if_neg q]; exact z1, z2, by rw [wipe_get vs σ i q]; exact z3⟩
/-- a list comprehension, read -/
theorem lc_read {Wf : WX} {g : Ev.G} {it ifs elt : Ev.E} {vs : List Nat} (hgv : ∀ i ∈ gv g, i ∈ vs) {Q : VK} (h : TEv T W (ev p (.lc g it ifs elt vs)) σ H Q) : tLc (TIv T W (ev p it)) (TGv T g) (TTv T Wf (ev p ifs)) (TEv T Wf (ev p elt)) vs σ H Q := by
  obtain ⟨G, ρ, E, h⟩ := h
  unfold ev at h
  refine ⟨G, ρ, E, h.bi.mono fun l k ρ1 G1 H1 J S g1 wk hs h1 => fun D hD => ?_⟩
  cases er : lcGo g (fun ρ => testOf (ev p ifs ρ)) (fun ρ => ev p elt ρ) vs l [] (lock k ρ1) with
  | ok r ρF =>
    rw [er] at h1
    obtain ⟨accF, rfl⟩ := lcGo_shape er
    obtain ⟨Ek, Lk, Fk⟩ := lock_ok g1.env k
    obtain ⟨Eh, Lh⟩ := hide_ok Ek vs
    have s0 := LS.start Eh hD
    have S0 : S G1 H1 (fun a => Lof (hide vs (lock k ρ1)) (wipe σ vs) a) := hs _ fun a z => .inl (Lh a z)
    have S1 := wk.keep _ _ _ _ _ _ S0 (Step.more (M := fun a => a = D) s0.step (fun a e => by rw [e]; exact hD))
    have main := lc_loop (Wf := Wf) hD (wipe_wipe vs σ) hgv wk S1 s0 er (Qend := fun H' => Q (.ref D) H') fun G2 H2 s _ so => ?_
    · exact main
    · obtain ⟨gb, nl⟩ := comp_back g1.env s.env s.step s.fix s.own hD so
      obtain ⟨vv, k1, k2⟩ := s.acc
      refine h1 (.ref D) G2 H2 (g1.trans gb) ⟨D, rfl, s.non, nl, .inl ⟨vv, accF, rfl, k1, k2⟩⟩ fun q e => ?_
      cases e
      cases e0 : H D with
      | none => rfl
      | some o => exact absurd hD (g1.step.dom D (by rw [e0]; simp))
  | ex c d ρ' => rw [er] at h1; exact h1.elim
  | no => rw [er] at h1; exact h1.elim
/-! ### two clauses -/
theorem hide_hide {vs ws : List Nat} (h : ∀ i ∈ ws, i ∈ vs) (ρ : Ev.Env) : hide vs (hide ws ρ) = hide vs ρ := by
  have key : ∀ (vs : List Nat) (ρ : Ev.Env) (i : Nat), (hide vs ρ)[i]? = if i ∈ vs ∧ i < ρ.length then some none else ρ[i]? := fun vs => by
    induction vs with
    | nil => intro σ i; simp [hide]
    | cons v vs ih =>
      intro σ i
      unfold hide
      rw [List.getElem?_set, hide_length]
      by_cases e : v = i
      · subst e
        by_cases q : v < σ.length
        · simp [q]
        · simp [q, List.getElem?_eq_none (Nat.le_of_not_lt q)]
      · have e' : ¬ i = v := fun z => e z.symm
        simp only [e, if_false, ih σ i, List.mem_cons, e', false_or]
  refine List.ext_getElem? fun i => ?_
  rw [key, key, key, hide_length]
  by_cases e : i ∈ vs
  · by_cases q : i < ρ.length
    · simp [e, q]
    · have hn : ρ[i]? = none := List.getElem?_eq_none (Nat.le_of_not_lt q)
      simp [e, q, hn]
  · have e' : i ∉ ws := fun z => e (h i z)
    simp [e, e']
theorem lc2Go_shape {g : Ev.G} {test : Ev.Env → Option (Bool × Ev.Env)} {it1 : Ev.Env → R} {inner : List Ev.D → List Ev.D → Ev.Env → R} {vs : List Nat} : ∀ {l : List Ev.D} {acc : List Ev.D} {ρ ρ' : Ev.Env} {r : Rs}, lc2Go g test it1 inner vs l acc ρ = .ok r ρ' → ∃ accF, r = .fr (.lst accF)
  | [], acc, ρ, ρ', r, h => by cases h; exact ⟨acc, rfl⟩
  | x :: l, acc, ρ, ρ', r, h => by
    unfold lc2Go at h
    split at h
    · split at h
      · split at h
        · split at h
          · exact lc2Go_shape h
          · cases h
        · cases h
      · exact lc2Go_shape h
      · cases h
    · cases h
theorem lc2_loop {Wf : WX} (hDb : Hb D = .none) {g g1 : Ev.G} {ft fi ft1 fe : Ev.Env → R} {vs vs1 : List Nat} {σi : L2.St} (hw : wipe σi vs = σi) (hgv : ∀ i ∈ gv g, i ∈ vs) (hgv1 : ∀ i ∈ gv g1, i ∈ vs1) (hv1 : ∀ i ∈ vs1, i ∈ vs) {J : It} {l : List Ev.D} {S : Hp → Hp → (Addr → Prop) → Prop} (wk : Wk T J l S)
    {Gw Hw : Hp} {ρw : Ev.Env} {acc0 accF : List Ev.D} {ρF : Ev.Env} (S0 : S Gw Hw (fun a => Lof (hide vs ρw) σi a ∨ a = D)) (s0 : LS T D Gb Hb ρb σb acc0 Gw Hw (hide vs ρw) σi)
    (hres : lc2Go g (fun ρ => testOf (ft ρ)) fi (lcGo g1 (fun ρ => testOf (ft1 ρ)) fe vs1) vs l acc0 ρw = .ok (.fr (.lst accF)) ρF) {Qend : Hp → Prop}
    (fin : ∀ G H, LS T D Gb Hb ρb σb accF G H (hide vs ρF) σi → (∀ i, i ∉ vs → (slot ρw i).isSome = true → (slot ρF i).isSome = true) → Qend H) :
    ∃ Wp : Nat → Nat → Hp → Prop, (∃ m, Wp 0 m Hw) ∧ ∀ i m H, Wp i m H → (J.stop i H ∧ Qend H) ∨ (J.go i H ∧ ∃ Nx : Hp → Prop, (∀ H', Nx H' → ∃ m', m' < m ∧ Wp (i + 1) m' H') ∧ ∀ x H', J.yld i H x H' →
      TGv T g x σi H' fun σ2 H2 => wipe σ2 vs = σi ∧ TTv T Wf ft σ2 H2 fun b H3 => if b = true then TIv T Wf fi σ2 H3 fun J1 H4 => ∃ W1 : Nat → Nat → Hp → Prop, (∃ m, W1 0 m H4) ∧ ∀ j k H, W1 j k H →
        (J1.stop j H ∧ Nx H) ∨ (J1.go j H ∧ ∃ Nx1 : Hp → Prop, (∀ H', Nx1 H' → ∃ k', k' < k ∧ W1 (j + 1) k' H') ∧ ∀ x H', J1.yld j H x H' → TGv T g1 x (wipe σ2 vs1) H' fun σ3 H5 => wipe σ3 vs1 = wipe σ2 vs1 ∧ TTv T Wf ft1 σ3 H5 fun b H6 =>
          if b = true then TEv T Wf fe σ3 H6 fun y H7 => ∃ acc, H7 D = some (.lst acc) ∧ acc.length < sizeLine ∧ Nx1 (upd H7 D (.lst (acc ++ [y]))) else Nx1 H6)
      else Nx H3) := by
  let St : Nat → Hp → Prop := fun i H => ∃ G ρ acc, LS T D Gb Hb ρb σb acc G H (hide vs ρ) σi ∧ Step (fun a => Lof (hide vs ρw) σi a ∨ a = D) (fun a => Lof (hide vs ρ) σi a ∨ a = D) Gw Hw G H ∧ (∀ i, i ∉ vs → (slot ρw i).isSome = true → (slot ρ i).isSome = true) ∧ lc2Go g (fun ρ => testOf (ft ρ)) fi (lcGo g1 (fun ρ => testOf (ft1 ρ)) fe vs1) vs (l.drop i) acc ρ = .ok (.fr (.lst accF)) ρF
  refine ⟨fun i m H => m = l.length - i ∧ i ≤ l.length ∧ St i H, ⟨l.length, by simp, Nat.zero_le _, Gw, ρw, acc0, s0, Step.refl _ _ _, fun _ _ h => h, by simpa using hres⟩, ?_⟩
  rintro i m H ⟨rfl, hi, G, ρ, acc, s, sw, so, hr⟩
  have Sc := wk.keep _ _ _ _ _ _ S0 sw
  by_cases hlt : i < l.length
  · refine .inr ⟨wk.go _ _ _ _ s.env.sub Sc hlt, St (i + 1), fun H' h' => ⟨l.length - (i + 1), by omega, rfl, hlt, h'⟩, fun x H' y => ?_⟩
    have hd : l[i]? = some l[i] := by simp [hlt]
    obtain ⟨G', n, rx⟩ := wk.yld _ _ _ _ _ _ _ s.env.sub Sc hd y
    have g1' := n.go s.env
    rw [List.drop_eq_getElem_cons hlt] at hr
    unfold lc2Go at hr
    cases e1 : asgG g l[i] false (hide vs ρ) with
    | none => rw [e1] at hr; cases hr
    | some ρ1 =>
      simp only [e1] at hr
      refine ⟨G', hide vs ρ, l[i], ρ1, g1'.env, rx, e1, fun σ2 ak => ?_⟩
      have hwi : wipe σ2 vs = σi := by
        rw [wipe_eq (σ := σi) (by rw [← ak.env.len, ← g1'.env.len]; exact asg_len e1) fun j hj => (ak.out j fun z => hj (hgv j z)).1, hw]
      refine ⟨hwi, ?_⟩
      have s1 := (s.go g1'.toGo).go ak.go
      have sw1 := (sw.trans (g1'.step.add (fun a => a = D))).trans (ak.go.step.add (fun a => a = D))
      have so1 : ∀ i, i ∉ vs → (slot ρw i).isSome = true → (slot ρ1 i).isSome = true := fun j hj h => by
        have h2 := so j hj h
        rw [(ak.out j fun z => hj (hgv j z)).2, hide_slot, if_neg hj]
        exact h2
      cases e2 : testOf (ft ρ1) with
      | none => rw [e2] at hr; cases hr
      | some q =>
        obtain ⟨b, ρ2⟩ := q
        rw [e2] at hr
        refine test_read ak.env e2 fun G2 H2 g2 so2 => ?_
        have s2 := s1.go g2
        have sw2 := sw1.trans (g2.step.add (fun a => a = D))
        have so2' : ∀ i, i ∉ vs → (slot ρw i).isSome = true → (slot ρ2 i).isSome = true := fun j hj h => so2 j (so1 j hj h)
        cases b with
        | false =>
          simp only [Bool.false_eq_true, if_false]
          have hg := hide_go s2.env vs
          rw [hwi] at hg
          exact ⟨G2, ρ2, acc, s2.go hg, sw2.trans (hg.step.add (fun a => a = D)), so2', hr⟩
        | true =>
          simp only [if_true]
          simp only at hr
          cases e3 : fi ρ2 with
          | ok r3 ρ3 =>
            cases r3 with
            | its l1 k1 =>
              cases k1 with
              | none =>
                simp only [e3] at hr
                refine ⟨G2, ρ2, s2.env, ?_⟩
                rw [e3]
                intro J1 S1 G3 H3 g3 wk1 hs1
                cases e4 : lcGo g1 (fun ρ => testOf (ft1 ρ)) fe vs1 l1 acc ρ3 with
                | ok r4 ρ4 =>
                  obtain ⟨acc4, rfl⟩ := lcGo_shape e4
                  simp only [e4] at hr
                  have s3 := s2.go g3.toGo
                  have sw3 := sw2.trans (g3.step.add (fun a => a = D))
                  have hg := hide_go s3.env vs1
                  obtain ⟨_, Lh⟩ := hide_ok s3.env vs1
                  have s3' := s3.go hg
                  have sw3' := sw3.trans (hg.step.add (fun a => a = D))
                  have S1' := hs1 (fun a => Lof (hide vs1 ρ3) (wipe σ2 vs1) a ∨ a = D) fun a z => z.elim (fun z => .inl (Lh a z)) fun z => .inr (by rw [z]; exact s2.foreign)
                  refine lc_loop (Wf := Wf) hDb (wipe_wipe vs1 σ2) hgv1 wk1 S1' s3' e4 fun G5 H5 s5 sw5 so5 => ?_
                  have hg5 := hide_go s5.env vs
                  have ew : wipe (wipe σ2 vs1) vs = σi := by
                    rw [← hwi]
                    exact wipe_eq (wipe_length σ2 vs1) fun j hj => wipe_get vs1 σ2 j fun z => hj (hv1 j z)
                  rw [hide_hide hv1, ew] at hg5
                  refine ⟨G5, ρ4, acc4, s5.go hg5, (sw3'.trans sw5).trans (hg5.step.add (fun a => a = D)), fun j hj h => ?_, hr⟩
                  exact so5 j (fun z => hj (hv1 j z)) (g3.some j (so2' j hj h))
                | ex c d ρ4 => rw [e4] at hr; cases hr
                | no => rw [e4] at hr; cases hr
              | some k1 => rw [e3] at hr; cases hr
            | _ => rw [e3] at hr; cases hr
          | ex c d ρ3 => rw [e3] at hr; cases hr
          | no => rw [e3] at hr; cases hr
  · have e : i = l.length := by omega
    subst e
    rw [List.drop_length] at hr
    cases hr
    exact .inl ⟨wk.stop _ _ _ _ s.env.sub Sc (Nat.le_refl _), fin G H s so⟩
theorem lc2_read {Wf : WX} {g g1 : Ev.G} {it ifs it1 ifs1 elt : Ev.E} {vs vs1 : List Nat} (hgv : ∀ i ∈ gv g, i ∈ vs) (hgv1 : ∀ i ∈ gv g1, i ∈ vs1) (hv1 : ∀ i ∈ vs1, i ∈ vs) {Q : VK} (h : TEv T W (ev p (.lc2 g it ifs g1 it1 ifs1 elt vs vs1)) σ H Q) :
    tLc2 (TIv T W (ev p it)) (TGv T g) (TTv T Wf (ev p ifs)) (TIv T Wf (ev p it1)) (TGv T g1) (TTv T Wf (ev p ifs1)) (TEv T Wf (ev p elt)) vs vs1 σ H Q := by
  obtain ⟨G, ρ, E, h⟩ := h
  unfold ev at h
  refine ⟨G, ρ, E, h.bi.mono fun l k ρ1 G1 H1 J S ge wk hs h1 => fun D hD => ?_⟩
  cases er : lc2Go g (fun ρ => testOf (ev p ifs ρ)) (fun ρ => ev p it1 ρ) (lcGo g1 (fun ρ => testOf (ev p ifs1 ρ)) (fun ρ => ev p elt ρ) vs1) vs l [] (lock k ρ1) with
  | ok r ρF =>
    rw [er] at h1
    obtain ⟨accF, rfl⟩ := lc2Go_shape er
    obtain ⟨Ek, Lk, Fk⟩ := lock_ok ge.env k
    obtain ⟨Eh, Lh⟩ := hide_ok Ek vs
    have s0 := LS.start Eh hD
    have S0 : S G1 H1 (fun a => Lof (hide vs (lock k ρ1)) (wipe σ vs) a) := hs _ fun a z => .inl (Lh a z)
    have S1 := wk.keep _ _ _ _ _ _ S0 (Step.more (M := fun a => a = D) s0.step (fun a e => by rw [e]; exact hD))
    refine lc2_loop (Wf := Wf) hD (wipe_wipe vs σ) hgv hgv1 hv1 wk S1 s0 er (Qend := fun H' => Q (.ref D) H') fun G2 H2 s so => ?_
    obtain ⟨gb, nl⟩ := comp_back ge.env s.env s.step s.fix s.own hD so
    obtain ⟨vv, k1, k2⟩ := s.acc
    refine h1 (.ref D) G2 H2 (ge.trans gb) ⟨D, rfl, s.non, nl, .inl ⟨vv, accF, rfl, k1, k2⟩⟩ fun q e => ?_
    cases e
    cases e0 : H D with
    | none => rfl
    | some o => exact absurd hD (ge.step.dom D (by rw [e0]; simp))
  | ex c d ρ' => rw [er] at h1; exact h1.elim
  | no => rw [er] at h1; exact h1.elim

/-- the block of a comprehension -/
def W0 : WX := fun _ _ _ _ => False
theorem XOk.blk (O : XOk T W X) (s : Shared) (H : Hp) (scope : Scope) (cenv : PySem.Env) (fp : List Addr) : XOk T W0 (X.blk s H scope cenv fp) :=
  ⟨O.prog, O.w, O.K, O.mg, O.base, O.calm, O.units, O.guards, takes0, O.rep⟩
theorem s_lc (O : XOk T W X) {tg iter elt : Expr} {ifs : List Expr} {scope : Scope} {own : List (Str × Nat)} {pos : Pos} {g : Ev.G} {it fs e : Ev.E} {vs : List Nat} (hN : X.N.Nodup) (hi : SI T W X p tg iter it) (ok : BlkOk X.N X.env.scope scope own) (hvs : own.map (·.2) = vs) (hgv : ∀ i ∈ gv g, i ∈ vs)
    (hg : ∀ (s : Shared) (H : Hp) (C : Addr) (cl : List (Str × Addr)) (fp : List Addr), SG T (X.blk s H scope (compEnvC scope cl C X.env) fp) tg g) (ht : ∀ (s : Shared) (H : Hp) (C : Addr) (cl : List (Str × Addr)) (fp : List Addr), SF T W0 (X.blk s H scope (compEnvC scope cl C X.env) fp) p ifs fs)
    (he : ∀ (s : Shared) (H : Hp) (C : Addr) (cl : List (Str × Addr)) (fp : List Addr), SE T W0 (X.blk s H scope (compEnvC scope cl C X.env) fp) p elt e) : SE T W X p (.ListComp elt [⟨tg, iter, ifs, 0⟩] scope pos) (.lc g it fs e vs) := by
  subst hvs
  have h : PE X (.ListComp elt [⟨tg, iter, ifs, 0⟩] scope pos) (TEv T W (ev p (.lc g it fs e (own.map (·.2))))) :=
    (pe_lc O.calm hN hi.pi ok (fun s H C cl fp => (hg s H C cl fp).pg) (fun s H C cl fp => (ht s H C cl fp).pt) (fun s H C cl fp => (he s H C cl fp).pe) hi.fs).imp fun σ H Q h => lc_read hgv h
  exact ⟨h, pt_plain O h fun _ => rfl⟩
/-- name = [..] on one line -/
theorem lc_set (O : XOk T W X) {i : Nat} {y : Str} {py : Pos} {tg iter elt : Expr} {ifs : List Expr} {scope : Scope} {own : List (Str × Nat)} {pos spos : Pos} {g : Ev.G} {it fs e : Ev.E} {vs : List Nat} (hN : X.N.Nodup) (hy : X.N[i]? = some y) (hyl : X.env.scope.names.lookup y = some .local)
    (hsw : swapsWith (.ListComp elt [⟨tg, iter, ifs, 0⟩] scope pos) (some (.Name y py)) spos.line X.env = pure true) (hi : SI T W X p tg iter it) (ok : BlkOk X.N X.env.scope scope own) (hvs : own.map (·.2) = vs) (hgv : ∀ i ∈ gv g, i ∈ vs)
    (hg : ∀ (s : Shared) (H : Hp) (C : Addr) (cl : List (Str × Addr)) (fp : List Addr), SG T (X.blk s H scope (compEnvC scope cl C X.env) fp) tg g) (ht : ∀ (s : Shared) (H : Hp) (C : Addr) (cl : List (Str × Addr)) (fp : List Addr), SF T W0 (X.blk s H scope (compEnvC scope cl C X.env) fp) p ifs fs)
    (he : ∀ (s : Shared) (H : Hp) (C : Addr) (cl : List (Str × Addr)) (fp : List Addr), SE T W0 (X.blk s H scope (compEnvC scope cl C X.env) fp) p elt e) :
    PS X (.Assign [.Name y py] (.ListComp elt [⟨tg, iter, ifs, 0⟩] scope pos) spos) (tAsg (TEv T W (ev p (.lc g it fs e vs))) (gName i)) := by
  subst hvs
  exact (ps_setLc O.calm hN hy hyl hsw hi.pi ok (fun s H C cl fp => (hg s H C cl fp).pg) (fun s H C cl fp => (ht s H C cl fp).pt) (fun s H C cl fp => (he s H C cl fp).pe) hi.fs).imp fun D σ H h => lc_read hgv h
theorem s_lc2 (O : XOk T W X) {tg iter tg1 iter1 elt : Expr} {ifs ifs1 : List Expr} {scope : Scope} {own : List (Str × Nat)} {pos : Pos} {g g1 : Ev.G} {it fs it1 fs1 e : Ev.E} {vs vs1 : List Nat} (hN : X.N.Nodup) (hi : SI T W X p tg iter it) (ok : BlkOk X.N X.env.scope scope own) (hvs : own.map (·.2) = vs)
    (hgv : ∀ i ∈ gv g, i ∈ vs) (hgv1 : ∀ i ∈ gv g1, i ∈ vs1) (hv1 : ∀ i ∈ vs1, i ∈ vs) (hs1 : noSetE iter1 = true)
    (hg : ∀ (s : Shared) (H : Hp) (C : Addr) (cl : List (Str × Addr)) (fp : List Addr), SG T (X.blk s H scope (compEnvC scope cl C X.env) fp) tg g) (ht : ∀ (s : Shared) (H : Hp) (C : Addr) (cl : List (Str × Addr)) (fp : List Addr), SF T W0 (X.blk s H scope (compEnvC scope cl C X.env) fp) p ifs fs)
    (hi1 : ∀ (s : Shared) (H : Hp) (C : Addr) (cl : List (Str × Addr)) (fp : List Addr), SI T W0 (X.blk s H scope (compEnvC scope cl C X.env) fp) p tg1 iter1 it1)
    (hg1 : ∀ (s : Shared) (H : Hp) (C : Addr) (cl : List (Str × Addr)) (fp : List Addr), SG T (X.blk s H scope (compEnvC scope cl C X.env) fp) tg1 g1) (ht1 : ∀ (s : Shared) (H : Hp) (C : Addr) (cl : List (Str × Addr)) (fp : List Addr), SF T W0 (X.blk s H scope (compEnvC scope cl C X.env) fp) p ifs1 fs1)
    (he : ∀ (s : Shared) (H : Hp) (C : Addr) (cl : List (Str × Addr)) (fp : List Addr), SE T W0 (X.blk s H scope (compEnvC scope cl C X.env) fp) p elt e) : SE T W X p (.ListComp elt [⟨tg, iter, ifs, 0⟩, ⟨tg1, iter1, ifs1, 0⟩] scope pos) (.lc2 g it fs g1 it1 fs1 e vs vs1) := by
  subst hvs
  have h : PE X (.ListComp elt [⟨tg, iter, ifs, 0⟩, ⟨tg1, iter1, ifs1, 0⟩] scope pos) (TEv T W (ev p (.lc2 g it fs g1 it1 fs1 e (own.map (·.2)) vs1))) :=
    (pe_lc2 O.calm hN hi.pi ok hv1 (fun s H C cl fp => (hg s H C cl fp).pg) (fun s H C cl fp => (ht s H C cl fp).pt) (fun s H C cl fp => (hi1 s H C cl fp).pi) (fun s H C cl fp => (hg1 s H C cl fp).pg) (fun s H C cl fp => (ht1 s H C cl fp).pt) (fun s H C cl fp => (he s H C cl fp).pe) hi.fs (fun env => noSet_fs hs1 env)).imp fun σ H Q h => lc2_read hgv hgv1 hv1 h
  exact ⟨h, pt_plain O h fun _ => rfl⟩
end
end Ev
end

section
set_option Elab.async false
set_option linter.all false
set_option maxRecDepth 100000
set_option maxHeartbeats 1000000
/-! EvP: dict comprehensions, keys of both kinds. -/
namespace Ev
open PySem PySem.Spec L2

/-- an empty dict of the kind that is wanted -/
def mt0 (t : Bool) : HO := if t then .dT [] else .dK []
section
variable {X : Cx} {pins : List (Addr × Obj)} {σ : L2.St} {H H' : Hp} {s : Shared}
theorem mt0_ok {P : Program} {w : World} {Hx : Hp} (t : Bool) (h : Heap) (hb : sysModules < h.objs.size) : ObjOk P w Hx (h.push { cls := .type "dict", data := .dict #[] }) h.objs.size (mt0 t) := by
  cases t
  · exact dk_empty h hb
  · exact dt_empty h hb
/-- an entry put in by a comprehension -/
theorem put_entry {E : Value → Shared → Prop} {N0 : Addr} {y v : V} {u r : Value} {Q : Unit → Shared → Prop} (hu : X.A.units + 2 < cLine) (I : Inv X pins σ H s) (g : DPut H N0 y v H') (ry : RelV y u) (rv : RelV v r) (h : ∀ s', Inv X pins σ H' s' → Q () s') :
    wpAny (model X.prog X.w) X.A (dictSet N0 u r) Q E s := by
  rcases g with ⟨kvs, k, e, ey, hz, eH⟩ | ⟨kvs, k, b, e, ey, eb, hz, eH⟩
  · subst ey eH
    exact d_dictSet I e hz ry rv h
  · subst ey eH
    cases (show u = Value.ref b from ry)
    obtain ⟨z, hd, zs, rel, dd⟩ := dt_of I.hok e
    have hl := Paired.length rel
    refine wpAny_dictSet_heap (knd := tupleKind (mixKind X.prog X.w)) (hsz := by rw [← hl]; exact z) ?_ (key_of I.hok eb) dd fun h' dd' same => h _ ?_
    · show X.A.units < cLine
      omega
    · obtain ⟨q, es, ep, hq, h2, h3, h4, _, h5⟩ := dd'
      have hl2 : (putK kvs k v).length ≤ sizeLine := Nat.le_trans (length_putK kvs k v) hz
      refine d_write I (by rw [e]; exact True.intro) same ⟨q, hq⟩ ⟨hl2, hd, _, (rel.put k eb rv).keeps fun c ys ec => ?_, q, es, ep, hq, h2, h3, h4, h5⟩
      rw [upd_ne (ne_of ec e (fun z => nomatch z))]
      exact ec
/-- {k: v for target in iter if ..}, keys of either kind -/
def tDcA (t : Bool) (wi : TI) (g : TG) (tt : TT) (tk tv : TE) (vs : List Nat) : TE := fun σ H Q => wi σ H fun J H1 => ∀ N0, H1 N0 = none → ∃ W : Nat → Nat → Hp → Prop, (∃ m, W 0 m (upd H1 N0 (mt0 t))) ∧ ∀ i m H, W i m H →
  (J.stop i H ∧ Q (.ref N0) H) ∨ (J.go i H ∧ ∃ Nx : Hp → Prop, (∀ H', Nx H' → ∃ m', m' < m ∧ W (i + 1) m' H') ∧ ∀ x H', J.yld i H x H' → g x (wipe σ vs) H' fun σ2 H2 => wipe σ2 vs = wipe σ vs ∧ tt σ2 H2 fun b H3 =>
    if b = true then tk σ2 H3 fun y H4 => tv σ2 H4 fun z H5 => ∃ H6, DPut H5 N0 y z H6 ∧ Nx H6 else Nx H3)
theorem pe_dcA {t : Bool} {kx vx tg iter : Expr} {ifs : List Expr} {scope : Scope} {own : List (Str × Nat)} {pos : Pos} {wi : TI} {g : TG} {tt : TT} {tk tv : TE} (hc : X.calm = true) (hu : X.A.units + 2 < cLine) (hN : X.N.Nodup) (hi : PI X tg iter wi) (ok : BlkOk X.N X.env.scope scope own)
    (hg : ∀ (s : Shared) (H : Hp) (C : Addr) (cl : List (Str × Addr)) (fp : List Addr), PG (X.blk s H scope (compEnvC scope cl C X.env) fp) tg g) (ht : ∀ (s : Shared) (H : Hp) (C : Addr) (cl : List (Str × Addr)) (fp : List Addr), PTs (X.blk s H scope (compEnvC scope cl C X.env) fp) ifs tt)
    (hk : ∀ (s : Shared) (H : Hp) (C : Addr) (cl : List (Str × Addr)) (fp : List Addr), PE (X.blk s H scope (compEnvC scope cl C X.env) fp) kx tk)
    (he : ∀ (s : Shared) (H : Hp) (C : Addr) (cl : List (Str × Addr)) (fp : List Addr), PE (X.blk s H scope (compEnvC scope cl C X.env) fp) vx tv) (hs : ∀ x, foldedSetIterable iter X.env x = pure x) :
    PE X (.DictComp kx vx [⟨tg, iter, ifs, 0⟩] scope pos) (tDcA t wi g tt tk tv (own.map (·.2))) := by
  refine ⟨fun pins s σ H Q I h => ?_⟩
  rw [arm_eval_DictComp]
  have closed : ∀ y ∈ scope.names, y.2 = .free → ∃ c, X.env.cells.lookup y.1 = some c := fun y hy e => (ok.free y hy e).elim (fun k => I.ok.has _ (.inl k)) fun k => I.ok.has _ (.inr k)
  show wpAny (model X.prog X.w) X.A (comprehension (.DictComp kx vx [⟨tg, iter, ifs, 0⟩] scope pos) scope X.env (firstIterPos [⟨tg, iter, ifs, 0⟩] pos) newDict false (eval iter X.env) none) _ X.xe s
  refine wpAny_comprehension_free (use := none) rfl hs (closure_ok closed) ok.kind (fun y hy e => by rw [ok.uniq y hy, e]) (thn (hi.run pins s σ H _ I h) fun xv sa hx => thn hx fun itv sb h2 => ?_)
  obtain ⟨it, fp, tn, J, Ha, e, Ia, T, sta, fa, q⟩ := h2
  subst e
  refine wpAny_newObj_type (newEnv_comp ?_)
  generalize hN0 : sb.heap.objs.size = N0
  obtain ⟨W, ⟨m0, w0⟩, turn⟩ := q N0 (Ia.hok.fresh (Nat.le_of_eq hN0))
  generalize hsc : ({ sb with heap := sb.heap.push { cls := .type "dict", data := .dict #[] } } : Shared) = sc
  have hph : sc.heap = sb.heap.push { cls := .type "dict", data := .dict #[] } := by rw [← hsc]
  generalize hHb : upd Ha N0 (mt0 t) = Hb at w0
  have Ib : Inv X pins σ Hb sc := by
    rw [← hsc, ← hHb]
    refine Ia.laid (t' := sb.toks) (fun b o e => Heap.get?_push_of_some _ e) (Nat.le_of_eq hN0) ?_
    rw [← hN0]
    exact mt0_ok t sb.heap Ia.big
  have young : ∀ b ∈ fp, b < sb.heap.objs.size := fun b hb => by
    obtain ⟨o, e, _⟩ := T.obj _ _ sta b hb
    exact Heap.lt_size e
  have fb : ∀ b ∈ fp, FpOk X pins Hb b ∧ b < sc.heap.objs.size := fun b hb => by
    have hlt := young b hb
    refine ⟨⟨?_, (fa b hb).2⟩, by rw [hph, Heap.size_push]; exact Nat.lt_succ_of_lt hlt⟩
    rw [← hHb, upd_ne (by rw [← hN0]; exact Nat.ne_of_lt hlt)]
    exact (fa b hb).1
  have stb : tn 0 sc.heap := T.keep _ _ _ sta fun b _ o e => by rw [hph]; exact Heap.get?_push_of_some _ e
  have Ic := block_start Ib ok hN fb
  show codeAny _ _ (.compStart (.DictComp kx vx [⟨tg, iter, ifs, 0⟩] scope pos) 0 (.ref it) (.ref N0) (compEnvC scope (cellsFrom (sc.heap.objs.size + 1) scope.names (cloFrom X.env.cells scope.names [])) sc.heap.objs.size X.env)) (compPost (model X.prog X.w) X.A X.xe none _ (.ref N0) sc.heap.objs.size) { sc with heap := pushCells (sc.heap.push { cls := .type "dict", data := .dict #[] }) scope.names }
  generalize hcl : cellsFrom (sc.heap.objs.size + 1) scope.names (cloFrom X.env.cells scope.names []) = cl at Ic ⊢
  have Pg := hg sc Hb sc.heap.objs.size cl fp
  have Pt := ht sc Hb sc.heap.objs.size cl fp
  have Pk := hk sc Hb sc.heap.objs.size cl fp
  have Pv := he sc Hb sc.heap.objs.size cl fp
  have none0 : ∀ b ∈ fp, Hb b = none := fun b hb => (fb b hb).1.1
  generalize hce : compEnvC scope cl sc.heap.objs.size X.env = ce at Ic Pg Pt Pk Pv ⊢
  have cL : ce.locals = sc.heap.objs.size := by subst hce; rfl
  generalize hsd : ({ sc with heap := pushCells (sc.heap.push { cls := .type "dict", data := .dict #[] }) scope.names } : Shared) = sd at Ic ⊢
  have std : tn 0 sd.heap := T.keep _ _ _ stb fun b _ o e => by rw [← hsd]; exact pushCells_keeps _ _ _ _ (Heap.get?_push_of_some _ e)
  have stay : ∀ {σ' : L2.St} {H' : Hp} {s' : Shared}, Inv (X.blk sc Hb scope ce fp) [] σ' H' s' → (∀ b ∈ fp, H' b = none) → ∀ b ∈ fp, FpOk (X.blk sc Hb scope ce fp) [] H' b := fun {σ' H' s'} I' hn b hb =>
    ⟨hn b hb, (I'.ok.exf b hb).1, I'.ok.exfs b hb, .inl hb, fun x c e => (I'.ok.exf b hb).2 x c e, fun p hp => absurd (show p ∈ ([] : List (Addr × Obj)) ++ [] from hp) (by simp)⟩
  have loop : codeAny (model X.prog X.w) X.A (.compLoop (.DictComp kx vx [⟨tg, iter, ifs, 0⟩] scope pos) 0 (.ref it) (.ref N0) ce) (compPost (model X.prog X.w) X.A X.xe none (EP X pins σ Q) (.ref N0) sc.heap.objs.size) sd := by
    refine compLoop_anyD (fun n s' => ∃ i H', Inv (X.blk sc Hb scope ce fp) [] (wipe σ (own.map (·.2))) H' s' ∧ tn i s'.heap ∧ (∀ b ∈ fp, H' b = none) ∧ W i n H') ?_ m0 ⟨0, Hb, Ic, std, none0, w0⟩
    rintro n s5 ⟨i, H5, I5, st5, n5, w5⟩
    rcases turn i n H5 w5 with ⟨stop, qq⟩ | ⟨go, Nx, hNx, step⟩
    · refine thnF (T.done (X.blk sc Hb scope ce fp) rfl rfl rfl hc i [] s5 _ H5 (fun _ _ => False) I5 (stay I5 n5) st5 stop) fun r s6 ⟨hr, I6⟩ => ?_
      subst hr
      have I7 : Inv X pins σ H5 s6 := Ib.call' (ch := fp) I6.os I6.base I6.hok I6.bare fun b hb => ⟨(fb b hb).1.2.2.2.1, (fb b hb).1.2.1, (fb b hb).1.2.2.2.2.1, (fb b hb).1.2.2.2.2.2⟩
      have nC : H5 sc.heap.objs.size = none := by
        have z : H5 ce.locals = none := I6.free
        rw [cL] at z
        exact z
      obtain ⟨m, hn, _⟩ := I6.loc
      have hn : s6.heap.Ns ce.locals m := hn
      rw [cL] at hn
      obtain ⟨f0, f1, f2, f3, f4, f5⟩ := Ib.fpOk (Nat.le_refl _) nC
      exact ⟨m, hn, fun h'' sb' => ⟨.ref N0, H5, I7.turned (t' := s6.toks) (fun b o hb e => (sb'.2 b hb).trans e) f0 f1 f3 f4 f5, rfl, qq⟩⟩
    · refine thnF (T.item (X.blk sc Hb scope ce fp) rfl rfl rfl hc i [] s5 _ H5 (fun _ _ => False) I5 (stay I5 n5) st5 go) fun r s6 ⟨u, hr, h6⟩ => ?_
      subst hr
      refine thnF h6 fun _ s7 ⟨x, H7, I7, r7, y7, st7, n7⟩ => ?_
      refine thnF (Pg.run _ s7 _ H7 x u _ (I7.pinned (stay I7 n7) (T.obj _ _ st7)) r7 (step x H7 y7)) fun _ s8 ⟨σ8, H8, I8, hw8, q8⟩ => ?_
      refine thnF (Pt.run _ s8 σ8 H8 _ I8 q8) fun b s9 ⟨H9, I9, q9⟩ => ?_
      have fin : ∀ {s' : Shared} {H' : Hp}, Inv (X.blk sc Hb scope ce fp) ([] ++ pinsAt fp s7.heap) σ8 H' s' → Nx H' → ∃ m, m < n ∧ ∃ i H', Inv (X.blk sc Hb scope ce fp) [] (wipe σ (own.map (·.2))) H' s' ∧ tn i s'.heap ∧ (∀ b ∈ fp, H' b = none) ∧ W i m H' := fun {s' H'} I' nx => by
        obtain ⟨m', hm, w'⟩ := hNx H' nx
        have held : ∀ b ∈ fp, ∀ o, s7.heap.get? b = some o → s'.heap.get? b = some o ∧ H' b = none := fun b hb o e =>
          let z := I'.pin (b, o) (List.mem_append_right _ (List.mem_append_right _ (mem_pinsAt hb e)))
          ⟨z.1, z.2.1⟩
        refine ⟨m', hm, i + 1, H', (I'.unpinned (pins := [])).weak (by rw [← hw8, wipe_length]) (fun j v e => by rw [← hw8] at e; exact (wipe_some e).1), T.keep _ _ _ st7 fun b hb o e => (held b hb o e).1, fun b hb => ?_, w'⟩
        obtain ⟨o, e, _⟩ := T.obj _ _ st7 b hb
        exact (held b hb o e).2
      cases b with
      | false =>
        simp only [Bool.false_eq_true, if_false] at q9 ⊢
        exact fin I9 q9
      | true =>
        simp only [if_true] at q9 ⊢
        refine thnF (Pk.run _ s9 σ8 H9 _ I9 q9) fun z s10 ⟨yk, H10, I10, r10, q10⟩ => ?_
        refine thnF (Pv.run _ s10 σ8 H10 _ I10 q10) fun z2 s11 ⟨yv, H11, I11, r11, H12, put, nx⟩ => ?_
        exact put_entry (X := X.blk sc Hb scope ce fp) hu I11 put r10 r11 fun s12 I12 => fin I12 nx
  exact codeAny_compStart_dict loop (T.self X.A 0 _ _ _ std loop)
end
end Ev
end

section
set_option Elab.async false
set_option linter.all false
set_option maxRecDepth 100000
set_option maxHeartbeats 1000000
/-! EvT: dicts that grow; dict comprehensions, read. -/
namespace Ev
open PySem PySem.Spec L2

section
variable {fa : Fa} {K : PySem.W.Frag} {G H : Hp} {v : V} {d : Ev.D}
theorem any_zip {κ : Type} [DecidableEq κ] (f : κ → Ev.D) (hf : ∀ j k, keyEq (f j) (f k) = decide (j = k)) (k : κ) : ∀ {ks : List κ} {vs : List V} {ds : List Ev.D}, ks.length = vs.length → vs.length = ds.length → ((ks.zip vs).any fun kv => decide (kv.1 = k)) = (((ks.map f).zip ds).any fun e => keyEq e.1 (f k))
  | [], _, _, _, _ => by simp
  | _ :: _, [], _, l, _ => by simp at l
  | _ :: _, _ :: _, [], _, l => by simp at l
  | j :: ks, w :: vs, e :: ds, l, l2 => by
    simp only [List.map_cons, List.zip_cons_cons, List.any_cons, hf, any_zip f hf k (by simpa using l : ks.length = vs.length) (by simpa using l2 : vs.length = ds.length)]
theorem map_zip {κ : Type} [DecidableEq κ] (f : κ → Ev.D) (hf : ∀ j k, keyEq (f j) (f k) = decide (j = k)) (k : κ) (r : Rp fa K G v d) : ∀ {ks : List κ} {vs : List V} {ds : List Ev.D}, ks.length = vs.length → RpA fa K G vs ds →
    ∃ (vs' : List V) (ds' : List Ev.D), ks.length = vs'.length ∧ RpA fa K G vs' ds' ∧ (ks.zip vs).map (fun kv => if kv.1 = k then (kv.1, v) else kv) = ks.zip vs' ∧ ((ks.map f).zip ds).map (fun e => if keyEq e.1 (f k) then (e.1, d) else e) = (ks.map f).zip ds'
  | [], _, _, _, _ => ⟨[], [], rfl, .nil, by simp, by simp⟩
  | _ :: _, [], _, l, _ => by simp at l
  | j :: ks, w :: vs, _, l, .cons (d := e) (ds := ds) h ra => by
    obtain ⟨vs', ds', l', ra', e1, e2⟩ := map_zip f hf k r (ks := ks) (vs := vs) (ds := ds) (by simpa using l) ra
    by_cases q : j = k
    · refine ⟨v :: vs', d :: ds', by simpa using l', .cons r ra', ?_, ?_⟩
      · simp only [List.zip_cons_cons, List.map_cons, e1, if_pos q]
      · simp only [List.map_cons, List.zip_cons_cons, e2, hf, decide_eq_true q, if_true]
    · refine ⟨w :: vs', e :: ds', by simpa using l', .cons h ra', ?_, ?_⟩
      · simp only [List.zip_cons_cons, List.map_cons, e1, if_neg q]
      · simp only [List.map_cons, List.zip_cons_cons, e2, hf, decide_eq_false q, Bool.false_eq_true, if_false]
/-- an entry put in, both ways -/
theorem put_zip {κ : Type} [DecidableEq κ] (f : κ → Ev.D) (hf : ∀ j k, keyEq (f j) (f k) = decide (j = k)) (k : κ) (r : Rp fa K G v d) {ks : List κ} {vs : List V} {ds : List Ev.D} (l : ks.length = vs.length) (ra : RpA fa K G vs ds) :
    ∃ (ks' : List κ) (vs' : List V) (ds' : List Ev.D), ks'.length = vs'.length ∧ RpA fa K G vs' ds' ∧ putK (ks.zip vs) k v = ks'.zip vs' ∧ dput (f k) d ((ks.map f).zip ds) = (ks'.map f).zip ds' := by
  unfold putK dput
  rw [any_zip f hf k l ra.length]
  by_cases q : (((ks.map f).zip ds).any fun e => keyEq e.1 (f k)) = true
  · rw [if_pos q, if_pos q]
    obtain ⟨vs', ds', l', ra', e1, e2⟩ := map_zip f hf k r l ra
    exact ⟨ks, vs', ds', l', ra', e1, e2⟩
  · rw [if_neg q, if_neg q]
    refine ⟨ks ++ [k], vs ++ [v], ds ++ [d], by simp [l], ra.append (.cons r .nil), ?_, ?_⟩
    · rw [List.zip_append l]; rfl
    · rw [List.map_append, List.zip_append (by rw [List.length_map, l, ra.length])]; rfl
/-- a dict of its own, an entry put in -/
theorem own_put {p : Addr} {t : Bool} {es : List (Ev.D × Ev.D)} {y : V} {kd : Ev.D} (sb : Sub G H) (o : Own fa K G H p (.dct t es)) (hk : keyFits t kd = true) (rk : Rp fa K G y kd) (rv : Rp fa K G v d) (hz : es.length < LIM) :
    ∃ o', DPut H p y v (upd H p o') ∧ Own fa K G (upd H p o') p (.dct t (dput kd d es)) := by
  rcases o with ⟨_, _, e, _⟩ | ⟨ks, vs, ds, e, h, l, r⟩ | ⟨ks, vs, ds, e, h, l, r⟩
  · cases e
  · cases e
    obtain ⟨k, rfl⟩ := isKey0_kD (show isKey0 kd = true from hk)
    have ey : y = kV k := by
      cases k with
      | inl i => cases rk; rfl
      | inr x => cases rk; rfl
    obtain ⟨ks', vs', ds', l', r', e1, e2⟩ := put_zip kD keyEq_kD k rv l r
    refine ⟨.dK (putK (ks.zip vs) k v), .inl ⟨_, k, h, ey, ?_, rfl⟩, .inr (.inl ⟨ks', vs', ds', by rw [e2], by rw [upd_same, e1], l', r'⟩)⟩
    rw [List.length_zip, l, Nat.min_self, ← LIM_eq]
    rw [List.length_zip, List.length_map, l, r.length, Nat.min_self] at hz
    rw [r.length]; exact hz
  · cases e
    obtain ⟨k, rfl⟩ := isKeyT_kD (show isKeyT kd = true from hk)
    cases rk with
    | @tup b xs ds0 h1 r1 =>
      have hb : H b = some (.tup (k.map kV)) := by
        rw [← rpA_keys k r1]
        exact sb.tup _ _ h1
      obtain ⟨ks', vs', ds', l', r', e1, e2⟩ := put_zip (fun k => Ev.D.tup (k.map kD)) keyEq_kT k rv l r
      refine ⟨.dT (putK (ks.zip vs) k v), .inr ⟨_, k, b, h, rfl, hb, ?_, rfl⟩, .inr (.inr ⟨ks', vs', ds', by rw [e2], by rw [upd_same, e1], l', r'⟩)⟩
      rw [List.length_zip, l, Nat.min_self, ← LIM_eq]
      rw [List.length_zip, List.length_map, l, r.length, Nat.min_self] at hz
      rw [r.length]; exact hz
end
/-- a list or dict that grows, while the block runs -/
structure LO (T : Tb) (D : Addr) (Gb Hb : Hp) (ρb : Ev.Env) (σb : L2.St) (d : Ev.D) (G H : Hp) (ρ : Ev.Env) (σ : L2.St) : Prop where
  env : T.Env G H ρ σ
  step : Step (Lof ρb σb) (Lof ρ σ) Gb Hb G H
  fix : Fix ρb ρ σb σ
  acc : Own T.fa T.K G H D d
  non : G D = .none
  own : ¬ Lof ρ σ D
  nolk : ∀ j d, slot ρ j = some (.lk d) → σ[j]? = some (some (.ref D)) → Rp T.fa T.K G (.ref D) d
section
variable {T : Tb} {W : WX} {X : Cx} {p : Par} {G G1 G' H H1 H' : Hp} {ρ ρ' ρ1 : Ev.Env} {σ σ' σ1 : L2.St} {v : V} {d d' : Ev.D} {D : Addr} {Gb Hb : Hp} {ρb : Ev.Env} {σb : L2.St}
theorem LO.foreign (s : LO T D Gb Hb ρb σb d G H ρ σ) : Foreign T G H ρ σ D := by
  obtain ⟨w, hw, _, nt⟩ := s.acc.there
  exact ⟨⟨w, hw, nt⟩, s.non, s.own, s.nolk⟩
theorem LO.go (s : LO T D Gb Hb ρb σb d G H ρ σ) (g : Go T G H ρ σ G' H' ρ' σ') : LO T D Gb Hb ρb σb d G' H' ρ' σ' := by
  obtain ⟨f, e1⟩ := s.foreign.go g
  exact ⟨g.env, s.step.trans g.step, s.fix.trans g.fix, s.acc.step g.step.mono e1, f.non, f.own, f.nolk⟩
theorem LO.write {o : HO} (s : LO T D Gb Hb ρb σb d G H ρ σ) (hD : Hb D = .none) (h : Own T.fa T.K G (upd H D o) D d') : LO T D Gb Hb ρb σb d' G (upd H D o) ρ σ :=
  ⟨write_new s.env s.non s.own s.nolk, s.step.updNew hD, s.fix, h, s.non, s.own, s.nolk⟩
theorem LO.start {o : HO} (E : T.Env G H ρ σ) (hD : H D = .none) (h : Own T.fa T.K G (upd H D o) D d) : LO T D G H ρ σ d G (upd H D o) ρ σ := by
  have n : New T G H G (upd H D o) := New.own E.sub hD
  have g := n.go E
  refine ⟨g.env, g.step, g.fix, h, E.sub.none hD, fun z => (E.lof z).1 hD, fun j d h1 h2 => ?_⟩
  obtain ⟨u, hu, ok⟩ := E.val j _ h1
  rw [h2] at hu
  cases hu
  rcases ok with ok | ⟨q, e, _, _, o⟩
  · exact ok
  · cases e
    obtain ⟨w, hw, _⟩ := o.there
    rw [hD] at hw; cases hw
theorem dcGo_shape {t : Bool} {g : Ev.G} {test : Ev.Env → Option (Bool × Ev.Env)} {key val : Ev.Env → R} {vs : List Nat} : ∀ {l : List Ev.D} {acc : List (Ev.D × Ev.D)} {ρ ρ' : Ev.Env} {r : Rs}, dcGo t g test key val vs l acc ρ = .ok r ρ' → ∃ accF, r = .fr (.dct t accF)
  | [], acc, ρ, ρ', r, h => by cases h; exact ⟨acc, rfl⟩
  | x :: l, acc, ρ, ρ', r, h => by
    unfold dcGo at h
    repeat' split at h
    all_goals first
      | exact dcGo_shape h
      | cases h
theorem dc_loop {Wf : WX} {t : Bool} (hDb : Hb D = .none) {g : Ev.G} {ft fk fv : Ev.Env → R} {vs : List Nat} {σi : L2.St} (hw : wipe σi vs = σi) (hgv : ∀ i ∈ gv g, i ∈ vs) {J : It} {l : List Ev.D} {S : Hp → Hp → (Addr → Prop) → Prop} (wk : Wk T J l S)
    {Gw Hw : Hp} {ρw : Ev.Env} {acc0 accF : List (Ev.D × Ev.D)} {ρF : Ev.Env} (S0 : S Gw Hw (fun a => Lof (hide vs ρw) σi a ∨ a = D)) (s0 : LO T D Gb Hb ρb σb (.dct t acc0) Gw Hw (hide vs ρw) σi)
    (hres : dcGo t g (fun ρ => testOf (ft ρ)) fk fv vs l acc0 ρw = .ok (.fr (.dct t accF)) ρF) {Qend : Hp → Prop}
    (fin : ∀ G H, LO T D Gb Hb ρb σb (.dct t accF) G H (hide vs ρF) σi → (∀ i, i ∉ vs → (slot ρw i).isSome = true → (slot ρF i).isSome = true) → Qend H) :
    ∃ Wp : Nat → Nat → Hp → Prop, (∃ m, Wp 0 m Hw) ∧ ∀ i m H, Wp i m H → (J.stop i H ∧ Qend H) ∨ (J.go i H ∧ ∃ Nx : Hp → Prop, (∀ H', Nx H' → ∃ m', m' < m ∧ Wp (i + 1) m' H') ∧ ∀ x H', J.yld i H x H' →
      TGv T g x σi H' fun σ2 H2 => wipe σ2 vs = σi ∧ TTv T Wf ft σ2 H2 fun b H3 => if b = true then TEv T Wf fk σ2 H3 fun y H4 => TEv T Wf fv σ2 H4 fun z H5 => ∃ H6, DPut H5 D y z H6 ∧ Nx H6 else Nx H3) := by
  let St : Nat → Hp → Prop := fun i H => ∃ G ρ acc, LO T D Gb Hb ρb σb (.dct t acc) G H (hide vs ρ) σi ∧ Step (fun a => Lof (hide vs ρw) σi a ∨ a = D) (fun a => Lof (hide vs ρ) σi a ∨ a = D) Gw Hw G H ∧ (∀ i, i ∉ vs → (slot ρw i).isSome = true → (slot ρ i).isSome = true) ∧ dcGo t g (fun ρ => testOf (ft ρ)) fk fv vs (l.drop i) acc ρ = .ok (.fr (.dct t accF)) ρF
  refine ⟨fun i m H => m = l.length - i ∧ i ≤ l.length ∧ St i H, ⟨l.length, by simp, Nat.zero_le _, Gw, ρw, acc0, s0, Step.refl _ _ _, fun _ _ h => h, by simpa using hres⟩, ?_⟩
  rintro i m H ⟨rfl, hi, G, ρ, acc, s, sw, so, hr⟩
  have Sc := wk.keep _ _ _ _ _ _ S0 sw
  by_cases hlt : i < l.length
  · refine .inr ⟨wk.go _ _ _ _ s.env.sub Sc hlt, St (i + 1), fun H' h' => ⟨l.length - (i + 1), by omega, rfl, hlt, h'⟩, fun x H' y => ?_⟩
    have hd : l[i]? = some l[i] := by simp [hlt]
    obtain ⟨G', n, rx⟩ := wk.yld _ _ _ _ _ _ _ s.env.sub Sc hd y
    have g1 := n.go s.env
    rw [List.drop_eq_getElem_cons hlt] at hr
    unfold dcGo at hr
    cases e1 : asgG g l[i] false (hide vs ρ) with
    | none => rw [e1] at hr; cases hr
    | some ρ1 =>
      simp only [e1] at hr
      refine ⟨G', hide vs ρ, l[i], ρ1, g1.env, rx, e1, fun σ2 ak => ?_⟩
      have hwi : wipe σ2 vs = σi := by
        rw [wipe_eq (σ := σi) (by rw [← ak.env.len, ← g1.env.len]; exact asg_len e1) fun j hj => (ak.out j fun z => hj (hgv j z)).1, hw]
      refine ⟨hwi, ?_⟩
      have s1 := (s.go g1.toGo).go ak.go
      have sw1 := (sw.trans (g1.step.add (fun a => a = D))).trans (ak.go.step.add (fun a => a = D))
      have so1 : ∀ i, i ∉ vs → (slot ρw i).isSome = true → (slot ρ1 i).isSome = true := fun j hj h => by
        have h2 := so j hj h
        rw [(ak.out j fun z => hj (hgv j z)).2, hide_slot, if_neg hj]
        exact h2
      cases e2 : testOf (ft ρ1) with
      | none => rw [e2] at hr; cases hr
      | some q =>
        obtain ⟨b, ρ2⟩ := q
        rw [e2] at hr
        refine test_read ak.env e2 fun G2 H2 g2 so2 => ?_
        have s2 := s1.go g2
        have sw2 := sw1.trans (g2.step.add (fun a => a = D))
        have so2' : ∀ i, i ∉ vs → (slot ρw i).isSome = true → (slot ρ2 i).isSome = true := fun j hj h => so2 j (so1 j hj h)
        have fin1 : ∀ {G3 H3 : Hp} {ρ3 : Ev.Env} {acc3 : List (Ev.D × Ev.D)}, LO T D Gb Hb ρb σb (.dct t acc3) G3 H3 ρ3 σ2 → Step (fun a => Lof (hide vs ρw) σi a ∨ a = D) (fun a => Lof ρ3 σ2 a ∨ a = D) Gw Hw G3 H3 → (∀ i, i ∉ vs → (slot ρw i).isSome = true → (slot ρ3 i).isSome = true) →
            dcGo t g (fun ρ => testOf (ft ρ)) fk fv vs (l.drop (i + 1)) acc3 ρ3 = .ok (.fr (.dct t accF)) ρF → St (i + 1) H3 := fun {G3 H3 ρ3 acc3} s3 sw3 so3 hr3 => by
          have hg := hide_go s3.env vs
          rw [hwi] at hg
          exact ⟨G3, ρ3, acc3, s3.go hg, sw3.trans (hg.step.add (fun a => a = D)), so3, hr3⟩
        cases b with
        | false =>
          simp only [Bool.false_eq_true, if_false]
          exact fin1 s2 sw2 so2' hr
        | true =>
          simp only [if_true]
          simp only at hr
          cases e3 : fk ρ2 with
          | ok y3 ρ3 =>
            simp only [e3] at hr
            cases e4 : tk y3 ρ3 with
            | none => rw [e4] at hr; cases hr
            | some q =>
              obtain ⟨kd, ρ4⟩ := q
              simp only [e4] at hr
              cases e5 : fv ρ4 with
              | ok y5 ρ5 =>
                simp only [e5] at hr
                cases e6 : tk y5 ρ5 with
                | none => rw [e6] at hr; cases hr
                | some q =>
                  obtain ⟨d6, ρ6⟩ := q
                  simp only [e6] at hr
                  split at hr
                  · rename_i hz
                    rw [Bool.and_eq_true, decide_eq_true_eq] at hz
                    refine keep_read s2.env e3 e4 fun G4 H4 v4 g4 so4 r4 => ?_
                    have s4 := s2.go g4
                    refine keep_read s4.env e5 e6 fun G6 H6 v6 g6 so6 r6 => ?_
                    have s6 := s4.go g6
                    obtain ⟨o', dp, ow⟩ := own_put s6.env.sub s6.acc hz.1 (r4.mono g6.step.mono) r6 hz.2
                    refine ⟨_, dp, ?_⟩
                    exact fin1 (s6.write hDb ow) (((sw2.trans (g4.step.add (fun a => a = D))).trans (g6.step.add (fun a => a = D))).trans Step.push) (fun j hj h => so6 j (so4 j (so2' j hj h))) hr
                  · cases hr
              | ex c d ρ5 => rw [e5] at hr; cases hr
              | no => rw [e5] at hr; cases hr
          | ex c d ρ3 => rw [e3] at hr; cases hr
          | no => rw [e3] at hr; cases hr
  · have e : i = l.length := by omega
    subst e
    rw [List.drop_length] at hr
    cases hr
    exact .inl ⟨wk.stop _ _ _ _ s.env.sub Sc (Nat.le_refl _), fin G H s so⟩
theorem own_mt {fa : Fa} {K : PySem.W.Frag} (t : Bool) (D : Addr) : Own fa K G (upd H D (mt0 t)) D (.dct t []) := by
  cases t
  · exact .inr (.inl ⟨[], [], [], rfl, upd_same, rfl, .nil⟩)
  · exact .inr (.inr ⟨[], [], [], rfl, upd_same, rfl, .nil⟩)
/-- a dict comprehension, read -/
theorem dc_read {Wf : WX} {t : Bool} {g : Ev.G} {it ifs key val : Ev.E} {vs : List Nat} (hgv : ∀ i ∈ gv g, i ∈ vs) {Q : VK} (h : TEv T W (ev p (.dc t g it ifs key val vs)) σ H Q) : tDcA t (TIv T W (ev p it)) (TGv T g) (TTv T Wf (ev p ifs)) (TEv T Wf (ev p key)) (TEv T Wf (ev p val)) vs σ H Q := by
  obtain ⟨G, ρ, E, h⟩ := h
  unfold ev at h
  refine ⟨G, ρ, E, h.bi.mono fun l k ρ1 G1 H1 J S g1 wk hs h1 => fun D hD => ?_⟩
  cases er : dcGo t g (fun ρ => testOf (ev p ifs ρ)) (fun ρ => ev p key ρ) (fun ρ => ev p val ρ) vs l [] (lock k ρ1) with
  | ok r ρF =>
    rw [er] at h1
    obtain ⟨accF, rfl⟩ := dcGo_shape er
    obtain ⟨Ek, Lk, Fk⟩ := lock_ok g1.env k
    obtain ⟨Eh, Lh⟩ := hide_ok Ek vs
    have s0 : LO T D G1 H1 (hide vs (lock k ρ1)) (wipe σ vs) (.dct t []) G1 (upd H1 D (mt0 t)) (hide vs (lock k ρ1)) (wipe σ vs) := LO.start Eh hD (own_mt t D)
    have S0 : S G1 H1 (fun a => Lof (hide vs (lock k ρ1)) (wipe σ vs) a) := hs _ fun a z => .inl (Lh a z)
    have S1 := wk.keep _ _ _ _ _ _ S0 (Step.more (M := fun a => a = D) s0.step (fun a e => by rw [e]; exact hD))
    refine dc_loop (Wf := Wf) hD (wipe_wipe vs σ) hgv wk S1 s0 er (Qend := fun H' => Q (.ref D) H') fun G2 H2 s so => ?_
    obtain ⟨gb, nl⟩ := comp_back g1.env s.env s.step s.fix s.own hD so
    refine h1 (.ref D) G2 H2 (g1.trans gb) ⟨D, rfl, s.non, nl, s.acc⟩ fun q e => ?_
    cases e
    cases e0 : H D with
    | none => rfl
    | some o => exact absurd hD (g1.step.dom D (by rw [e0]; simp))
  | ex c d ρ' => rw [er] at h1; exact h1.elim
  | no => rw [er] at h1; exact h1.elim
theorem s_dc (O : XOk T W X) {t : Bool} {tg iter kx vx : Expr} {ifs : List Expr} {scope : Scope} {own : List (Str × Nat)} {pos : Pos} {g : Ev.G} {it fs k e : Ev.E} {vs : List Nat} (hN : X.N.Nodup) (hi : SI T W X p tg iter it) (ok : BlkOk X.N X.env.scope scope own) (hvs : own.map (·.2) = vs) (hgv : ∀ i ∈ gv g, i ∈ vs)
    (hg : ∀ (s : Shared) (H : Hp) (C : Addr) (cl : List (Str × Addr)) (fp : List Addr), SG T (X.blk s H scope (compEnvC scope cl C X.env) fp) tg g) (ht : ∀ (s : Shared) (H : Hp) (C : Addr) (cl : List (Str × Addr)) (fp : List Addr), SF T W0 (X.blk s H scope (compEnvC scope cl C X.env) fp) p ifs fs)
    (hk : ∀ (s : Shared) (H : Hp) (C : Addr) (cl : List (Str × Addr)) (fp : List Addr), SE T W0 (X.blk s H scope (compEnvC scope cl C X.env) fp) p kx k)
    (he : ∀ (s : Shared) (H : Hp) (C : Addr) (cl : List (Str × Addr)) (fp : List Addr), SE T W0 (X.blk s H scope (compEnvC scope cl C X.env) fp) p vx e) : SE T W X p (.DictComp kx vx [⟨tg, iter, ifs, 0⟩] scope pos) (.dc t g it fs k e vs) := by
  subst hvs
  have h : PE X (.DictComp kx vx [⟨tg, iter, ifs, 0⟩] scope pos) (TEv T W (ev p (.dc t g it fs k e (own.map (·.2))))) :=
    (pe_dcA O.calm (by have := O.units; omega) hN hi.pi ok (fun s H C cl fp => (hg s H C cl fp).pg) (fun s H C cl fp => (ht s H C cl fp).pt) (fun s H C cl fp => (hk s H C cl fp).pe) (fun s H C cl fp => (he s H C cl fp).pe) hi.fs).imp fun σ H Q h => dc_read hgv h
  exact ⟨h, pt_plain O h fun _ => rfl⟩
end
end Ev
end

section
set_option Elab.async false
set_option linter.all false
set_option maxRecDepth 100000
set_option maxHeartbeats 1000000
/-! EvU: statements. -/
namespace Ev
open PySem PySem.Spec L2

section
variable {T : Tb} {W : WX} {X : Cx} {p : Par} {w : Nat} {G G1 G' H H1 H' : Hp} {ρ ρ' ρ1 : Ev.Env} {σ σ' σ1 : L2.St} {v : V} {d : Ev.D} {e : Expr} {E A : Ev.E} {pos : Pos}
/-- wanted behind a statement -/
def RunS (T : Tb) (W : WX) (G H : Hp) (ρ : Ev.Env) (σ : L2.St) (f : F) (D : Ends) : Prop := match f with
  | .nx ρ' => ∀ σ' G' H', Go T G H ρ σ G' H' ρ' σ' → D.nx σ' H'
  | .bk ρ' => ∀ σ' G' H', Go T G H ρ σ G' H' ρ' σ' → D.bk σ' H'
  | .ct ρ' => ∀ σ' G' H', Go T G H ρ σ G' H' ρ' σ' → D.ct σ' H'
  | .rt x ρ' => ∀ v σ' G' H', Go T G H ρ σ G' H' ρ' σ' → ResOk T.fa T.K G' H' ρ' σ' v x → NewOk H v x → D.rt v H'
  | .ex c d ρ' => ∀ σ' G' H' cls dd, Go T G H ρ σ G' H' ρ' σ' → ExOk T G' H' cls dd c d → W cls dd σ' H'
  | .no => False
theorem RunS.from {f : F} {D : Ends} (g : Go T G H ρ σ G1 H1 ρ1 σ1) (h : RunS T W G H ρ σ f D) : RunS T W G1 H1 ρ1 σ1 f D := by
  cases f with
  | nx ρ' => exact fun σ' G' H' g' => h σ' G' H' (g.trans g')
  | bk ρ' => exact fun σ' G' H' g' => h σ' G' H' (g.trans g')
  | ct ρ' => exact fun σ' G' H' g' => h σ' G' H' (g.trans g')
  | rt x ρ' => exact fun v σ' G' H' g' rk nk => h v σ' G' H' (g.trans g') rk (nk.back g.step.dom)
  | ex c d ρ' => exact fun σ' G' H' cls dd g' x => h σ' G' H' cls dd (g.trans g') x
  | no => exact h
def TSv (T : Tb) (W : WX) (f : Ev.Env → F) : TS := fun D σ H => ∃ G ρ, T.Env G H ρ σ ∧ RunS T W G H ρ σ (f ρ) D
/-- a statement, a block, are as told -/
structure SS (T : Tb) (W : WX) (X : Cx) (p : Par) (w : Nat) (st : Stmt) (s : Ev.S) : Prop where
  ps : PS X st (TSv T W (evS p w s))
structure SB (T : Tb) (W : WX) (X : Cx) (p : Par) (w : Nat) (st : List Stmt) (s : Ev.S) : Prop where
  pss : PSs X st (TSv T W (evS p w s))
/-- an expression ahead -/
theorem RunS.fl {r : R} {k : Rs → Ev.Env → F} {D : Ends} (h : RunS T W G H ρ σ (r.fl k) D) : Run T W G H ρ σ r fun x ρ1 _ _ _ => RunS T W G H ρ σ (k x ρ1) D := by
  cases r with
  | ok r ρ' => exact fun v G' H' g rk nk => h
  | ex c d ρ' => exact fun G' H' cls dd g x => h σ G' H' cls dd g.toGo x
  | no => exact h
theorem sb_nil : SB T W X p w [] .skip := ⟨pss_nil.imp fun D σ H ⟨G, ρ, E, h⟩ => h σ G H (Go.refl E)⟩
theorem sb_one {st : Stmt} {s : Ev.S} (h : SS T W X p w st s) : SB T W X p w [st] s := ⟨pss_one h.ps⟩
theorem sb_cons {st : Stmt} {sts : List Stmt} {s t : Ev.S} (h : SS T W X p w st s) (h2 : SB T W X p w sts t) : SB T W X p w (st :: sts) (.seq s t) := by
  refine ⟨(pss_cons h.ps h2.pss).imp fun D σ H ⟨G, ρ, E, h⟩ => ?_⟩
  refine ⟨G, ρ, E, ?_⟩
  unfold evS at h
  cases er : evS p w s ρ with
  | nx ρ1 =>
    rw [er] at h
    exact fun σ1 G1 H1 g => ⟨G1, ρ1, g.env, RunS.from g h⟩
  | bk ρ1 => rw [er] at h; exact h
  | ct ρ1 => rw [er] at h; exact h
  | rt x ρ1 => rw [er] at h; exact h
  | ex c d ρ1 => rw [er] at h; exact h
  | no => rw [er] at h; exact h.elim
theorem ss_pass : SS T W X p w (.Pass pos) .skip := ⟨ps_pass.imp fun D σ H ⟨G, ρ, E, h⟩ => h σ G H (Go.refl E)⟩
theorem ss_brk : SS T W X p w (.Break pos) .brk := ⟨ps_break.imp fun D σ H ⟨G, ρ, E, h⟩ => h σ G H (Go.refl E)⟩
theorem ss_cont : SS T W X p w (.Continue pos) .cont := ⟨ps_continue.imp fun D σ H ⟨G, ρ, E, h⟩ => h σ G H (Go.refl E)⟩
theorem ss_ex (ha : SE T W X p e A) (hs : swapsWith e none pos.line X.env = pure false) : SS T W X p w (.Expr e pos) (.ex A) := by
  refine ⟨(ps_expr ha.pe hs).imp fun D σ H ⟨G, ρ, E, h⟩ => ?_⟩
  unfold evS at h
  refine ⟨G, ρ, E, h.fl.mono fun x ρ1 v G1 H1 g rk nk h1 => ?_⟩
  cases x with
  | ls l => exact h1.elim
  | its l k => exact h1.elim
  | _ => exact h1 σ G1 H1 g.toGo
theorem ss_ret (ha : SE T W X p e A) : SS T W X p w (.Return (some e) pos) (.ret A) := by
  refine ⟨(ps_ret ha.pe).imp fun D σ H ⟨G, ρ, E, h⟩ => ?_⟩
  unfold evS at h
  refine ⟨G, ρ, E, h.fl.mono fun x ρ1 v G1 H1 g rk nk h1 => ?_⟩
  cases x with
  | fz d => exact h1 v σ G1 H1 g.toGo rk nk
  | fr d => exact h1 v σ G1 H1 g.toGo rk nk
  | sl i => exact h1 v σ G1 H1 g.toGo rk nk
  | _ => exact h1.elim
theorem ss_retN : SS T W X p w (.Return none pos) .retN := ⟨ps_retN.imp fun D σ H ⟨G, ρ, E, h⟩ => h .non σ G H (Go.refl E) .non trivial⟩
theorem ss_ite {c : Expr} {C : Ev.E} {a b : List Stmt} {s t : Ev.S} (hc : SE T W X p c C) (ha : SB T W X p w a s) (hb : SB T W X p w b t) : SS T W X p w (.If c a b pos) (.ite C s t) := by
  refine ⟨(ps_if hc.pt ha.pss hb.pss).imp fun D σ H ⟨G, ρ, E, h⟩ => ?_⟩
  unfold evS at h
  refine ⟨G, ρ, E, h.fl.mono fun x ρ1 v G1 H1 g rk nk h1 => ?_⟩
  cases e1 : tests x ρ1 with
  | none => rw [e1] at h1; exact h1.elim
  | some b =>
    rw [e1] at h1
    refine ⟨b, rfl, ?_⟩
    cases b with
    | true => exact ⟨G1, ρ1, g.env, RunS.from g.toGo h1⟩
    | false => exact ⟨G1, ρ1, g.env, RunS.from g.toGo h1⟩

/-! ### a name = .. -/
theorem set_ow (E : T.Env G H ρ σ) {i : Nat} {q : Addr} (hi : i < ρ.length) (n : G q = none) (l : ¬ Lof ρ σ q) (o : Own T.fa T.K G H q d) (nl : ∀ j d, slot ρ j = some (.lk d) → σ[j]? = some (some (.ref q)) → Rp T.fa T.K G (.ref q) d) :
    T.Env G H (ρ.set i (some (.ow d))) (σ.set i (some (.ref q))) ∧ ∀ a, Lof (ρ.set i (some (.ow d))) (σ.set i (some (.ref q))) a → Lof ρ σ a ∨ a = q := by
  have hi' : i < σ.length := by rw [← E.len]; exact hi
  have old : ∀ j s, slot (ρ.set i (some (.ow d))) j = some s → (j = i ∧ s = .ow d) ∨ (j ≠ i ∧ slot ρ j = some s ∧ (σ.set i (some (.ref q)))[j]? = σ[j]?) := fun j s h => by
    rw [slot_set'] at h
    by_cases e : i = j
    · subst e
      rw [if_pos rfl, if_pos hi] at h
      cases h
      exact .inl ⟨rfl, rfl⟩
    · rw [if_neg e] at h
      exact .inr ⟨fun z => e z.symm, h, List.getElem?_set_ne e⟩
  have self : (σ.set i (some (V.ref q)))[i]? = some (some (.ref q)) := List.getElem?_set_self hi'
  have ls : ∀ a, Lof (ρ.set i (some (.ow d))) (σ.set i (some (.ref q))) a → Lof ρ σ a ∨ a = q := fun a ⟨j, s, h1, h2, h3⟩ => by
    rcases old j s h1 with ⟨rfl, rfl⟩ | ⟨_, k1, k2⟩
    · rw [self] at h3; cases h3; exact .inr rfl
    · exact .inl ⟨j, s, k1, h2, by rw [← k2]; exact h3⟩
  refine ⟨⟨E.sub, E.low, by rw [List.length_set, List.length_set]; exact E.len, fun j s h => ?_, fun j k s t h1 h2 h3 h4 h5 => ?_⟩, ls⟩
  · rcases old j s h with ⟨rfl, rfl⟩ | ⟨_, k1, k2⟩
    · exact ⟨.ref q, self, q, rfl, n, o⟩
    · obtain ⟨u, hu, ok⟩ := E.val j s k1
      refine ⟨u, k2.trans hu, ?_⟩
      cases s with
      | fz d => exact ok
      | ow d => exact ok
      | ln d => exact ok
      | lk d' =>
        rcases ok with ok | ⟨r, e, n', l', o'⟩
        · exact .inl ok
        · subst e
          by_cases z : r = q
          · subst z; exact .inl (nl j d' k1 hu)
          · exact .inr ⟨r, rfl, n', fun w => (ls r w).elim l' z, o'⟩
  · rcases old j s h1 with ⟨rfl, rfl⟩ | ⟨j1, k1, k2⟩
    · rcases old k t h2 with ⟨rfl, rfl⟩ | ⟨_, k3, k4⟩
      · rfl
      · rw [self, k4] at h5
        exact absurd ⟨k, t, k3, h4, h5.symm⟩ l
    · rcases old k t h2 with ⟨rfl, rfl⟩ | ⟨_, k3, k4⟩
      · rw [self, k2] at h5
        exact absurd ⟨j, s, k1, h3, h5⟩ l
      · exact E.inj j k s t k1 k3 h3 h4 (by rw [← k2, ← k4]; exact h5)
theorem fix_ow {i : Nat} {u : Option V} (hi : i < ρ.length) : Fix ρ (ρ.set i (some (.ow d))) σ (σ.set i u) := fun j h => by
  rw [slot_set'] at h ⊢
  by_cases e : i = j
  · rw [if_pos e] at h
    split at h <;> exact absurd rfl h
  · rw [if_neg e] at h ⊢
    exact ⟨rfl, List.getElem?_set_ne e, fun _ => rfl⟩
/-- what no name held isn't locked -/
theorem new_nolk (E0 : T.Env G H ρ σ) (g : Go T G H ρ σ G1 H1 ρ1 σ1) {q : Addr} (hq : H q = none) : ∀ j d, slot ρ1 j = some (.lk d) → σ1[j]? = some (some (.ref q)) → Rp T.fa T.K G1 (.ref q) d := fun j d h1 h2 => by
  obtain ⟨_, k2, k3⟩ := g.fix j (by rw [h1]; exact Nat.one_ne_zero)
  have h0 : slot ρ j = some (.lk d) := by rw [← k3 (by rw [h1]; rfl)]; exact h1
  obtain ⟨u, hu, ok⟩ := E0.val j _ h0
  rw [← k2, h2] at hu
  cases hu
  rcases ok with ok | ⟨r, e, _, _, o⟩
  · exact ok.mono g.step.mono
  · cases e
    obtain ⟨w, hw, _⟩ := o.there
    rw [hq] at hw; cases hw
theorem name_put (E0 : T.Env G H ρ σ) (g : GoE T G H ρ σ G1 H1 ρ1) {x : Rs} {i : Nat} {own fr : Bool} {ρ2 ρ3 : Ev.Env} (rk : ResOk T.fa T.K G1 H1 ρ1 σ v x) (nk : NewOk H v x) (h : tkFr x ρ1 = some (d, fr, ρ2)) (hp : asgG (.nm i own) d fr ρ2 = some ρ3) :
    ∃ G3, Go T G H ρ σ G3 H1 ρ3 (σ.set i (some v)) := by
  have plain : ∀ {ρ2 : Ev.Env}, tk x ρ1 = some (d, ρ2) → putS i (.fz d) ρ2 = some ρ3 → ∃ G3, Go T G H ρ σ G3 H1 ρ3 (σ.set i (some v)) := fun {ρ2} e e2 => by
    obtain ⟨G3, g3, r3, _⟩ := keep1 g rk nk e
    have a := asg_fz g3.env r3 e2
    exact ⟨G3, g3.toGo.trans a.go⟩
  cases x with
  | fr d' =>
    cases h
    have rk' := rk
    obtain ⟨q, e1, n, l, o⟩ := rk
    cases own with
    | false => exact plain (ρ2 := ρ1) rfl (by unfold asgG at hp; simpa using hp)
    | true =>
      have hp' : putS i (.ow d) ρ1 = some ρ3 := by
        unfold asgG at hp
        rcases o.inv with ⟨ds, rfl⟩ | ⟨t, es, rfl⟩
        · simpa using hp
        · simpa using hp
      obtain ⟨hi, rfl, _⟩ := put_ok hp'
      subst e1
      have hq : H q = none := nk q rfl
      obtain ⟨k1, k2⟩ := set_ow g.env hi n l o (new_nolk E0 g.toGo hq)
      exact ⟨G1, k1, (Step.more (M := fun a => a = q) g.step (fun a e => by rw [e]; exact hq)).weak k2, g.fix.trans (fix_ow hi)⟩
  | fz d' =>
    cases h
    exact plain (ρ2 := ρ1) rfl (by rw [asgG_nm] at hp; exact hp)
  | sl j =>
    unfold tkFr at h
    obtain ⟨⟨d2, ρ2'⟩, h1, h2⟩ := Option.map_eq_some_iff.mp h
    cases h2
    exact plain h1 (by rw [asgG_nm] at hp; exact hp)
  | bo j => cases h
  | le j => cases h
  | gv d => cases h
  | st l => cases h
  | ls l => cases h
  | its l k => cases h
/-- name = e, read -/
theorem asg_read {i : Nat} {own : Bool} {D : Ends} (h : TSv T W (evS p w (.asg (.nm i own) A)) D σ H) : tAsg (TEv T W (ev p A)) (gName i) D σ H := by
  obtain ⟨G, ρ, E, h⟩ := h
  unfold evS at h
  refine ⟨G, ρ, E, h.fl.mono fun x ρ1 v G1 H1 g rk nk h1 => ?_⟩
  cases e1 : tkFr x ρ1 with
  | none => rw [e1] at h1; exact h1.elim
  | some q =>
    obtain ⟨d, fr, ρ2⟩ := q
    rw [e1] at h1
    simp only [asgT] at h1
    cases e2 : asgG (.nm i own) d fr ρ2 with
    | none => rw [e2] at h1; exact h1.elim
    | some ρ3 =>
      rw [e2] at h1
      obtain ⟨G3, g3⟩ := name_put E g rk nk e1 e2
      exact h1 _ G3 H1 g3
theorem ss_asg {i : Nat} {own : Bool} {x : Str} {px : Pos} (hN : X.N.Nodup) (hi : X.N[i]? = some x) (hx : Loc X.env.scope x) (hf : X.fn x = true ∨ X.env.scope.names.lookup x = some .local) (hs : swapsWith e (some (.Name x px)) pos.line X.env = pure false) (ha : SE T W X p e A) :
    SS T W X p w (.Assign [.Name x px] e pos) (.asg (.nm i own) A) := ⟨(ps_set hN hi hx ha.pe hs hf).imp fun D σ H h => asg_read h⟩
theorem ss_asgC {i : Nat} {own : Bool} {x : Str} {px : Pos} (h : PS X (.Assign [.Name x px] e pos) (tAsg (TEv T W (ev p A)) (gName i))) : SS T W X p w (.Assign [.Name x px] e pos) (.asg (.nm i own) A) := ⟨h.imp fun D σ H h => asg_read h⟩

/-! ### loops -/
/-- back from a loop: what was locked -/
theorem loop_back {k : Option Nat} {ρF : Ev.Env} {σF : L2.St} (E : T.Env G1 H1 ρ1 σ) (sE : T.Env G H ρF σF) (sS : Step (Lof (lock k ρ1) σ) (Lof ρF σF) G1 H1 G H) (sF : Fix (lock k ρ1) ρF σ σF) : Go T G1 H1 ρ1 σ G H (unlock k ρ1 ρF) σF := by
  obtain ⟨Ek, Lk, Fk⟩ := lock_ok E k
  have sl : ∀ i, (k = some i → (∃ d, slot ρF i = some (.lk d)) → slot (unlock k ρ1 ρF) i = slot ρ1 i) ∧ (¬ (k = some i ∧ ∃ d, slot ρF i = some (.lk d)) → slot (unlock k ρ1 ρF) i = slot ρF i) := fun i => by
    rcases unlock_cases k ρ1 ρF with e | ⟨j, s', d, e1, e2, e3, e4⟩
    · rw [e]
      refine ⟨fun hk ⟨d, hd⟩ => ?_, fun _ => rfl⟩
      rw [hd]
      have hk1 : kindOf (slot ρF i) = 1 := by rw [hd]; rfl
      obtain ⟨_, _, q3⟩ := sF i (by rw [hk1]; exact Nat.one_ne_zero)
      have q4 := q3 hk1
      rw [lock_slot, if_pos hk, hd] at q4
      cases q5 : slot ρ1 i with
      | none => rw [q5] at q4; cases q4
      | some t =>
        have := unlock_not e hk q5 hd
        rw [this]
    · rw [e4]
      have hj : j < ρF.length := slot_lt e3
      refine ⟨fun hk _ => ?_, fun hn => ?_⟩
      · rw [e1] at hk
        cases hk
        rw [slot_set hj, e2]
      · rw [slot_set']
        by_cases z : j = i
        · subst z; exact absurd ⟨e1, d, e3⟩ hn
        · rw [if_neg z]
  have lenU : (unlock k ρ1 ρF).length = σF.length := by
    rcases unlock_cases k ρ1 ρF with e | ⟨j, s', d, e1, e2, e3, e4⟩
    · rw [e, sE.len]
    · rw [e4, List.length_set, sE.len]
  have out : ∀ i, ¬ (k = some i ∧ ∃ d, slot ρF i = some (.lk d)) → kindOf (slot ρF i) = 1 → slot ρ1 i = slot ρF i := fun i hn hk => by
    obtain ⟨_, _, q3⟩ := sF i (by rw [hk]; exact Nat.one_ne_zero)
    have q4 := q3 hk
    rw [lock_slot] at q4
    by_cases z : k = some i
    · exfalso
      refine hn ⟨z, ?_⟩
      cases q5 : slot ρF i with
      | none => rw [q5] at hk; cases hk
      | some t =>
        rw [q5] at hk
        cases t with
        | lk d => exact ⟨d, rfl⟩
        | fz d => cases hk
        | ow d => cases hk
        | ln d => cases hk
    · rw [if_neg z] at q4
      exact q4.symm
  obtain ⟨r1, r2⟩ := restore (ρ2 := unlock k ρ1 ρF) (σ2 := σF) E sE sS Lk (fun i => k = some i ∧ ∃ d, slot ρF i = some (.lk d)) lenU
    (fun i hi t ht => by
      rw [(sl i).1 hi.1 hi.2] at ht
      obtain ⟨d, hd⟩ := hi.2
      have hk1 : kindOf (slot ρF i) = 1 := by rw [hd]; rfl
      obtain ⟨_, q2, _⟩ := sF i (by rw [hk1]; exact Nat.one_ne_zero)
      exact ⟨ht, q2, fun hs a ha z => Fk i t a hi.1 ht hs ha z⟩)
    (fun i hi => ⟨(sl i).2 hi, rfl⟩)
    (fun i hi hk => by
      obtain ⟨_, q2, _⟩ := sF i (by rw [hk]; exact Nat.one_ne_zero)
      exact ⟨out i hi hk, q2⟩)
  refine ⟨r1, r2, fun i hi => ?_⟩
  by_cases q2 : k = some i ∧ ∃ d, slot ρF i = some (.lk d)
  · obtain ⟨d, hd⟩ := q2.2
    have hk1 : kindOf (slot ρF i) = 1 := by rw [hd]; rfl
    obtain ⟨_, q3, _⟩ := sF i (by rw [hk1]; exact Nat.one_ne_zero)
    rw [(sl i).1 q2.1 q2.2]; exact ⟨rfl, q3, fun _ => rfl⟩
  · rw [(sl i).2 q2] at hi ⊢
    obtain ⟨q3, q4, _⟩ := sF i hi
    rw [lock_slot] at q3
    by_cases z : k = some i
    · rw [if_pos z] at q3
      cases q5 : slot ρF i with
      | none => rw [q5] at hi; exact absurd rfl hi
      | some t =>
        rw [q5] at q3 hi
        cases q6 : slot ρ1 i with
        | none => rw [q6] at q3; cases t <;> first | exact absurd rfl hi | cases q3
        | some t' =>
          rw [q6] at q3
          cases t with
          | lk d => exact absurd ⟨z, d, q5⟩ q2
          | fz d => exact absurd rfl hi
          | ow d => exact absurd rfl hi
          | ln d => cases q3
    · rw [if_neg z] at q3
      exact ⟨q3, q4, fun h => (out i q2 h).symm⟩
theorem RunS.fi {r : R} {k : Rs → Ev.Env → F} {D : Ends} (hk : ∀ x ρ, (∀ l n, x ≠ .its l n) → k x ρ = .no) (h : RunS T W G H ρ σ (r.fl k) D) : RunI T W G H ρ σ r fun l n ρ1 _ _ _ _ => RunS T W G H ρ σ (k (.its l n) ρ1) D := by
  cases r with
  | ok r ρ' =>
    have h' : RunS T W G H ρ σ (k r ρ') D := h
    cases r with
    | its l n => exact fun J S G' H' g wk hs => h'
    | _ => rw [hk _ _ (fun l n z => by cases z)] at h'; exact h'.elim
  | ex c d ρ' => exact fun G' H' cls dd g x => h σ G' H' cls dd g.toGo x
  | no => exact h
theorem unlock_far {k : Option Nat} {ρ0 ρ : Ev.Env} {j : Nat} (h : k ≠ some j) : slot (unlock k ρ0 ρ) j = slot ρ j := by
  rcases unlock_cases k ρ0 ρ with e | ⟨i, s, d, e1, _, _, e4⟩
  · rw [e]
  · rw [e4, slot_ne fun z => h (by rw [e1, z])]
theorem unlock_lof {k : Option Nat} {ρF : Ev.Env} {σF : L2.St} {a : Addr} (hσ : ∀ j, k = some j → (∃ d, slot ρF j = some (.lk d)) → σF[j]? = σ[j]?) (h : Lof (unlock k ρ1 ρF) σF a) : Lof ρ1 σ a ∨ Lof ρF σF a := by
  obtain ⟨i, t, z1, z2, z3⟩ := h
  rcases unlock_cases k ρ1 ρF with e | ⟨j, s, d, e1, e2, e3, e4⟩
  · rw [e] at z1; exact .inr ⟨i, t, z1, z2, z3⟩
  · rw [e4, slot_set'] at z1
    by_cases q : j = i
    · subst q
      rw [if_pos rfl, if_pos (slot_lt e3)] at z1
      cases z1
      exact .inl ⟨j, _, e2, z2, by rw [← hσ j e1 ⟨d, e3⟩]; exact z3⟩
    · rw [if_neg q] at z1
      exact .inr ⟨i, t, z1, z2, z3⟩
/-- for, read -/
theorem for_read {g : Ev.G} {it : Ev.E} {b : Ev.S} {D : Ends} (h : TSv T W (evS p w (.loop g it b)) D σ H) : tFor (TIv T W (ev p it)) (TGv T g) (TSv T W (evS p w b)) D σ H := by
  obtain ⟨G, ρ, E, h⟩ := h
  unfold evS at h
  refine ⟨G, ρ, E, (RunS.fi (fun x ρ hx => by cases x <;> first | rfl | exact absurd rfl (hx _ _)) h).mono fun l k ρ1 G1 H1 J S g1 wk hs h1 => ?_⟩
  have h1 : RunS T W G H ρ σ ((forGo g (fun ρ => evS p w b ρ) l (lock k ρ1)).unlock k ρ1) D := h1
  obtain ⟨Ek, Lk, Fk⟩ := lock_ok g1.env k
  have S0 : S G1 H1 (fun a => Lof (lock k ρ1) σ a) := hs _ fun a z => .inl z
  let St : Nat → L2.St → Hp → Prop := fun i σc Hc => ∃ Gc ρc, T.Env Gc Hc ρc σc ∧ Step (Lof (lock k ρ1) σ) (Lof ρc σc) G1 H1 Gc Hc ∧ Fix (lock k ρ1) ρc σ σc ∧ RunS T W G H ρ σ ((forGo g (fun ρ => evS p w b ρ) (l.drop i) ρc).unlock k ρ1) D
  refine ⟨fun i m σc Hc => m = l.length - i ∧ i ≤ l.length ∧ St i σc Hc, ⟨l.length, by simp, Nat.zero_le _, G1, lock k ρ1, Ek, Step.refl _ _ _, Fix.refl _ _, by simpa using h1⟩, ?_⟩
  rintro i m σc Hc ⟨rfl, hi, Gc, ρc, Ec, Sc, Fc, hr⟩
  have back : ∀ {G3 H3 : Hp} {ρ3 : Ev.Env} {σ3 : L2.St}, Go T Gc Hc ρc σc G3 H3 ρ3 σ3 → Go T G H ρ σ G3 H3 (unlock k ρ1 ρ3) σ3 := fun {G3 H3 ρ3 σ3} g3 =>
    g1.toGo.trans (loop_back g1.env g3.env (Sc.trans g3.step) (Fc.trans g3.fix))
  have Sw := wk.keep _ _ _ _ _ _ S0 Sc
  by_cases hlt : i < l.length
  · refine .inr ⟨wk.go _ _ _ _ Ec.sub Sw hlt, St (i + 1), fun σ' H' h' => ⟨l.length - (i + 1), by omega, rfl, hlt, h'⟩, fun x H' y => ?_⟩
    have hd : l[i]? = some l[i] := by simp [hlt]
    obtain ⟨G', n, rx⟩ := wk.yld _ _ _ _ _ _ _ Ec.sub Sw hd y
    have gn := n.go Ec
    rw [List.drop_eq_getElem_cons hlt] at hr
    unfold forGo at hr
    cases e1 : asgG g l[i] false ρc with
    | none => rw [e1] at hr; exact hr.elim
    | some ρ2 =>
      simp only [e1] at hr
      refine ⟨G', ρc, l[i], ρ2, gn.env, rx, e1, fun σ2 ak => ?_⟩
      have g2 := gn.toGo.trans ak.go
      refine ⟨G', ρ2, ak.env, ?_⟩
      cases e2 : evS p w b ρ2 with
      | nx ρ3 =>
        rw [e2] at hr
        intro σ3 G3 H3 g3
        have g4 := g2.trans g3
        exact ⟨G3, ρ3, g4.env, Sc.trans g4.step, Fc.trans g4.fix, hr⟩
      | ct ρ3 =>
        rw [e2] at hr
        intro σ3 G3 H3 g3
        have g4 := g2.trans g3
        exact ⟨G3, ρ3, g4.env, Sc.trans g4.step, Fc.trans g4.fix, hr⟩
      | bk ρ3 =>
        rw [e2] at hr
        intro σ3 G3 H3 g3
        exact hr σ3 G3 H3 (back (g2.trans g3))
      | ex c d ρ3 =>
        rw [e2] at hr
        intro σ3 G3 H3 cls dd g3 x
        exact hr σ3 G3 H3 cls dd (back (g2.trans g3)) x
      | no => rw [e2] at hr; exact hr.elim
      | rt x ρ3 =>
        rw [e2] at hr
        intro v σ3 G3 H3 g3 rk nk
        have g4 := g2.trans g3
        have fxk : ∀ j, k = some j → (∃ d, slot ρ3 j = some (.lk d)) → σ3[j]? = σ[j]? := fun j _ ⟨d, hd⟩ => ((Fc.trans g4.fix) j (by rw [hd]; exact Nat.one_ne_zero)).2.1
        have dom : ∀ a, H1 a ≠ none → H' a ≠ none := fun a ha => gn.step.dom a (Sc.dom a ha)
        have nlof : ∀ {q : Addr}, H' q = none → ¬ Lof ρ3 σ3 q → ¬ Lof (unlock k ρ1 ρ3) σ3 q := fun {q} hq hl z => by
          rcases unlock_lof fxk z with z | z
          · exact dom q (g1.env.lof z).1 hq
          · exact hl z
        have nk0 : NewOk H v x := by
          have : NewOk H1 v x := NewOk.back dom nk
          exact this.back g1.step.dom
        cases x with
        | fz d => exact hr v σ3 G3 H3 (back g4) rk nk0
        | fr d =>
          obtain ⟨q, e, n', l', o⟩ := rk
          exact hr v σ3 G3 H3 (back g4) ⟨q, e, n', nlof (nk q e) l', o⟩ nk0
        | gv d =>
          obtain ⟨q, e, n', l', o⟩ := rk
          exact hr v σ3 G3 H3 (back g4) ⟨q, e, n', nlof (nk q e) l', o⟩ nk0
        | sl j =>
          by_cases q : k = some j
          · have hr : RunS T W G H ρ σ (F.unlock k ρ1 (.rt (.sl j) ρ3)) D := hr
            unfold F.unlock at hr
            simp only [if_pos q] at hr
            exact hr.elim
          · have hr : RunS T W G H ρ σ (F.unlock k ρ1 (.rt (.sl j) ρ3)) D := hr
            unfold F.unlock at hr
            simp only [if_neg q] at hr
            exact hr v σ3 G3 H3 (back g4) ⟨rk.1, by rw [unlock_far q]; exact rk.2⟩ trivial
        | bo j =>
          exact hr.elim
        | le j =>
          exact hr.elim
        | st _ => exact rk.elim
        | ls _ => exact rk.elim
        | its _ _ => exact rk.elim
  · have e : i = l.length := by omega
    subst e
    rw [List.drop_length] at hr
    have hr : RunS T W G H ρ σ (.nx (unlock k ρ1 ρc)) D := hr
    exact .inl ⟨wk.stop _ _ _ _ Ec.sub Sw (Nat.le_refl _), hr σc Gc Hc (back (Go.refl Ec))⟩
theorem ss_for (O : XOk T W X) (hp : PassesOwn (model X.prog X.w) X.A X.env X.xe) {tg iter : Expr} {body : List Stmt} {g : Ev.G} {it : Ev.E} {b : Ev.S} (hi : SI T W X p tg iter it) (hg : SG T X tg g) (hb : SB T W X p w body b) : SS T W X p w (.For tg iter body [] pos) (.loop g it b) :=
  ⟨(ps_for hp O.calm hi.pi hg.pg hb.pss hi.fs).imp fun D σ H h => for_read h⟩
theorem ss_never {st : Stmt} : SS T W X p w st .never := ⟨⟨fun pins s σ H D I ⟨G, ρ, E, h⟩ => h.elim⟩⟩
theorem ss_wh (hp : PassesOwn (model X.prog X.w) X.A X.env X.xe) {c : Expr} {body : List Stmt} {C : Ev.E} {b : Ev.S} (hc : SE T W X p c C) (hb : SB T W X p w body b) : SS T W X p w (.While c body [] pos) (.wh C b) := by
  refine ⟨(ps_while hp hc.pt hb.pss).imp fun D σ H ⟨G, ρ, E, h⟩ => ?_⟩
  unfold evS at h
  refine ⟨fun m σc Hc => ∃ Gc ρc, T.Env Gc Hc ρc σc ∧ RunS T W Gc Hc ρc σc (whGo (fun ρ => ev p C ρ) (fun ρ => evS p w b ρ) m ρc) D, ⟨w, G, ρ, E, h⟩, ?_⟩
  rintro m σc Hc ⟨Gc, ρc, Ec, hr⟩
  cases m with
  | zero => exact hr.elim
  | succ m =>
    unfold whGo at hr
    refine ⟨Gc, ρc, Ec, (RunS.fl hr).mono fun x ρ1 v G1 H1 g rk nk h1 => ?_⟩
    cases e1 : tests x ρ1 with
    | none => rw [e1] at h1; exact h1.elim
    | some t =>
      rw [e1] at h1
      refine ⟨t, rfl, ?_⟩
      cases t with
      | false =>
        simp only [Bool.false_eq_true, if_false]
        exact h1 σc G1 H1 g.toGo
      | true =>
        simp only [if_true]
        simp only at h1
        refine ⟨fun σ' H' => ∃ G' ρ', T.Env G' H' ρ' σ' ∧ RunS T W G' H' ρ' σ' (whGo (fun ρ => ev p C ρ) (fun ρ => evS p w b ρ) m ρ') D, fun σ' H' hh => ⟨m, Nat.lt_succ_self _, hh⟩, G1, ρ1, g.env, ?_⟩
        cases e2 : evS p w b ρ1 with
        | nx ρ2 => rw [e2] at h1; exact fun σ3 G3 H3 g3 => ⟨G3, ρ2, g3.env, h1.from (g.toGo.trans g3)⟩
        | ct ρ2 => rw [e2] at h1; exact fun σ3 G3 H3 g3 => ⟨G3, ρ2, g3.env, h1.from (g.toGo.trans g3)⟩
        | bk ρ2 => rw [e2] at h1; exact fun σ3 G3 H3 g3 => h1 σ3 G3 H3 (g.toGo.trans g3)
        | ex c d ρ2 => rw [e2] at h1; exact fun σ3 G3 H3 cls dd g3 x => h1 σ3 G3 H3 cls dd (g.toGo.trans g3) x
        | rt x ρ2 => rw [e2] at h1; exact fun v σ3 G3 H3 g3 rk nk => h1 v σ3 G3 H3 (g.toGo.trans g3) rk (nk.back g.step.dom)
        | no => rw [e2] at h1; exact h1.elim
/-! ### two names at once -/
/-- one of them -/
def put1 (x : Rs) (g : Ev.G) (ρ : Ev.Env) : Option Ev.Env := match x with
  | .fr d => asgG g d true ρ
  | .fz d => asgG g d false ρ
  | _ => none
theorem putR (E0 : T.Env G H ρ σ) (g : Go T G H ρ σ G1 H1 ρ1 σ1) {x : Rs} {i : Nat} {own : Bool} {ρ3 : Ev.Env} (rk : ResOk T.fa T.K G1 H1 ρ1 σ1 v x) (nk : NewOk H v x)
    (hp : put1 x (.nm i own) ρ1 = some ρ3) :
    ∃ G3, Go T G H ρ σ G3 H1 ρ3 (σ1.set i (some v)) ∧ (∀ a, frA v x ≠ some a → G3 a = G1 a) ∧ (∀ a, Lof ρ3 (σ1.set i (some v)) a → Lof ρ1 σ1 a ∨ frA v x = some a) ∧ Sub G1 G3 := by
  cases x with
  | fz d =>
    simp only [put1] at hp
    rw [asgG_nm] at hp
    have a := asg_fz g.env rk hp
    exact ⟨G1, g.trans a.go, fun _ _ => rfl, fun a' h => .inl (a.lof a' h), Sub.refl _⟩
  | fr d =>
    simp only [put1] at hp
    have rk' := rk
    obtain ⟨q, e1, n, l, o⟩ := rk
    subst e1
    have hq : H q = none := nk q rfl
    cases own with
    | false =>
      have hp' : putS i (.fz d) ρ1 = some ρ3 := by unfold asgG at hp; simpa using hp
      obtain ⟨G2, k1, k2, k3, k4, k5⟩ := freeze_new g.env n l o
      have gf : Go T G H ρ σ G2 H1 ρ1 σ1 := ⟨k5, ⟨g.step.mono.trans k2, fun a q1 q2 q3 => by
        obtain ⟨f1, f2, f3⟩ := g.step.keep a q1 q2 q3
        have ne : a ≠ q := fun z => q1 (by rw [z]; exact hq)
        exact ⟨f1, by rw [k3 a ne]; exact f2, f3⟩, g.step.dom, g.step.still⟩, g.fix⟩
      have a := asg_fz k5 k1 hp'
      exact ⟨G2, gf.trans a.go, fun a ha => k3 a fun z => ha (by rw [z]; rfl), fun a' h => .inl (a.lof a' h), k2⟩
    | true =>
      have hp' : putS i (.ow d) ρ1 = some ρ3 := by
        unfold asgG at hp
        rcases o.inv with ⟨ds, rfl⟩ | ⟨t, es, rfl⟩
        · simpa using hp
        · simpa using hp
      obtain ⟨hi, rfl, _⟩ := put_ok hp'
      obtain ⟨k1, k2⟩ := set_ow g.env hi n l o (new_nolk E0 g hq)
      exact ⟨G1, ⟨k1, (Step.more (M := fun a => a = q) g.step (fun a e => by rw [e]; exact hq)).weak k2, g.fix.trans (fix_ow hi)⟩, fun _ _ => rfl, fun a h => (k2 a h).imp id fun e => by rw [e]; rfl, Sub.refl _⟩
  | _ => cases hp
theorem tkS1_ok {r r' : Rs} (E : T.Env G H ρ σ) (h : ResOk T.fa T.K G H ρ σ v r) (e : tkS1 r ρ = some (r', ρ')) :
    ∃ G', T.Env G' H ρ' σ ∧ Step (fun a => Lof ρ σ a ∨ frA v r = some a) (Lof ρ' σ) G H G' H ∧ ResOk T.fa T.K G' H ρ' σ v r' ∧ Fix ρ ρ' σ σ ∧ (∀ a, frA v r' = some a → frA v r = some a) ∧ ((∃ d, r' = .fz d) ∨ ∃ d, r' = .fr d ∧ r = .fr d ∧ G' = G ∧ ρ' = ρ) ∧ ∀ i, (slot ρ i).isSome = true → (slot ρ' i).isSome = true := by
  have go : (∀ d, r ≠ .fr d) → ∃ d, tk r ρ = some (d, ρ') ∧ r' = .fz d := fun nf => by
    cases r with
    | fr d => exact absurd rfl (nf d)
    | fz d => cases e; exact ⟨d, rfl, rfl⟩
    | sl i =>
      simp only [tkS1] at e
      cases q : tk (.sl i) ρ with
      | none => rw [q] at e; cases e
      | some t => obtain ⟨d, ρ1⟩ := t; rw [q] at e; cases e; exact ⟨d, rfl, rfl⟩
    | _ => cases e
  by_cases q : ∃ d, r = .fr d
  · obtain ⟨d, rfl⟩ := q
    cases e
    exact ⟨G, E, (Step.refl _ G H).from fun _ h => .inl h, h, Fix.refl _ _, fun _ h => h, .inr ⟨d, rfl, rfl, rfl, rfl⟩, fun _ h => h⟩
  · obtain ⟨d, e1, rfl⟩ := go fun d z => q ⟨d, z⟩
    obtain ⟨G', h1, h2, h3, h4, h5⟩ := tk_ok E h e1
    exact ⟨G', h1, h2, h3, h4, fun a z => (by cases v <;> cases z), .inl ⟨d, rfl⟩, h5⟩
theorem tkSl_ok : ∀ {rs : List Rs} {vs : List V} {G : Hp} {ρ ρ' : Ev.Env} {rs' : List Rs}, T.Env G H ρ σ → RsA T.fa T.K G H ρ σ vs rs → tkSl rs ρ = some (rs', ρ') →
    ∃ G', T.Env G' H ρ' σ ∧ Step (fun a => Lof ρ σ a ∨ frAll vs rs a) (Lof ρ' σ) G H G' H ∧ RsA T.fa T.K G' H ρ' σ vs rs' ∧ Fix ρ ρ' σ σ ∧ (∀ a, frAll vs rs' a → frAll vs rs a) ∧ ∀ i, (slot ρ i).isSome = true → (slot ρ' i).isSome = true
  | [], _, G, ρ, ρ', rs', E, h, e => by
    cases h
    cases e
    exact ⟨G, E, (Step.refl _ G H).from fun _ h => .inl h, .nil, Fix.refl _ _, fun _ h => h, fun _ h => h⟩
  | r :: rs, _, G, ρ, ρ', rs', E, h, e => by
    cases h with
    | @cons v vs _ _ h1 h2 h3 =>
      unfold tkSl at e
      cases q : tkS1 r ρ with
      | none => rw [q] at e; cases e
      | some dr =>
        obtain ⟨r', ρ1⟩ := dr
        simp only [q] at e
        cases q2 : tkSl rs ρ1 with
        | none => simp only [q2] at e; cases e
        | some dr2 =>
          obtain ⟨l', ρ2⟩ := dr2
          simp only [q2] at e
          cases e
          obtain ⟨G1, E1, S1, R1, F1, A1, K1, I1⟩ := tkS1_ok E h1 q
          have h2' : RsA T.fa T.K G1 H ρ1 σ vs rs := by
            clear q2
            have go : ∀ {vs : List V} {rs : List Rs}, RsA T.fa T.K G H ρ σ vs rs → (∀ a, frA v r = some a → ¬ frAll vs rs a) → RsA T.fa T.K G1 H ρ1 σ vs rs := fun {vs rs} h2 h3 => by
              induction h2 with
              | nil => exact .nil
              | @cons w ws t ts g1 g2 g3 ih => exact .cons (ResOk.kept S1 g1 (fun a z w => h3 a z (.inl w)) I1) (ih fun a e z => h3 a e (.inr z)) g3
            exact go h2 h3
          obtain ⟨G2, E2, S2, R2, F2, A2, I2⟩ := tkSl_ok E1 h2' q2
          refine ⟨G2, E2, (S1.from fun a z => z.elim .inl fun w => .inr (.inl w)).trans' S2 (fun a h => h.elim .inl fun z => .inr (.inr (.inr z))), .cons ?_ R2 fun a ha z => h3 a (A1 a ha) (A2 a z), F1.trans F2, fun a z => z.elim (fun z => .inl (A1 a z)) fun z => .inr (A2 a z), fun i h => I2 i (I1 i h)⟩
          rcases K1 with ⟨d, rfl⟩ | ⟨d, rfl, rfl, rfl, rfl⟩
          · exact Rp.mono S2.mono R1
          · obtain ⟨p, e, n, l, o⟩ := R1
            obtain ⟨u, hu, _, nt⟩ := o.there
            obtain ⟨_, e2, e3⟩ := S2.at' hu nt n fun z => z.elim l fun z => h3 p (by rw [e]; rfl) z
            exact ⟨p, e, e2, e3, o.step S2.mono rfl⟩
theorem RunS.fL {r : R} {k : Rs → Ev.Env → F} {D : Ends} (hk : ∀ x ρ, (∀ l, x ≠ .ls l) → k x ρ = .no) (h : RunS T W G H ρ σ (r.fl k) D) : RunL T W G H ρ σ r fun l ρ1 _ _ _ => RunS T W G H ρ σ (k (.ls l) ρ1) D := by
  cases r with
  | ok r ρ' =>
    have h' : RunS T W G H ρ σ (k r ρ') D := h
    cases r with
    | ls l => exact fun vs G' H' g ra na => h'
    | _ => rw [hk _ _ (fun l z => by cases z)] at h'; exact h'.elim
  | ex c d ρ' => exact fun G' H' cls dd g x => h σ G' H' cls dd g.toGo x
  | no => exact h
/-- a, b = x, y -/
theorem ss_par (O : XOk T W X) {i j : Nat} {own own2 : Bool} {x y : Str} {a b : Expr} {px py pt : Pos} {kt k2 pt2} (hN : X.N.Nodup) (hi : X.N[i]? = some x) (hj : X.N[j]? = some y) (hij : i ≠ j) (hx : X.env.scope.names.lookup x = some .local) (hy : X.env.scope.names.lookup y = some .local) (ha : SA T W X p [a, b] A)
    (hw : swappedStores [.Tuple [.Name x px, .Name y py] kt pt] (.Tuple [a, b] k2 pt2) X.env = pure (some [x, y]))
    (hs : swapsWithSole [.Tuple [.Name x px, .Name y py] kt pt] (.Tuple [a, b] k2 pt2) pos.line X.env = pure false) :
    SS T W X p w (.Assign [.Tuple [.Name x px, .Name y py] kt pt] (.Tuple [a, b] k2 pt2) pos) (.par (.cons (.nm i own) (.cons (.nm j own2) .nil)) A) := by
  refine ⟨(ps_par O.calm hN hi hj hij hx hy ha.pa hw hs).imp fun D σ H ⟨G, ρ, E, h⟩ => ?_⟩
  unfold evS at h
  refine ⟨G, ρ, E, (RunS.fL (fun x ρ hx => by cases x <;> first | rfl | exact absurd rfl (hx _)) h).mono fun l ρ1 vs G1 H1 g ra na h1 => ?_⟩
  cases e1 : tkSl l ρ1 with
  | none => simp only [e1] at h1; exact h1.elim
  | some q =>
    obtain ⟨l', ρ2⟩ := q
    simp only [e1] at h1
    cases e2 : parG (.cons (.nm i own) (.cons (.nm j own2) .nil)) l' ρ2 with
    | none => simp only [e2] at h1; exact h1.elim
    | some ρ3 =>
      simp only [e2] at h1
      obtain ⟨G2, E2, S2, R2, F2, A2, I2⟩ := tkSl_ok g.env ra e1
      have g2 : Go T G H ρ σ G2 H1 ρ2 σ := ⟨E2, g.step.transN S2 fun x z => z.imp id fun w => na x w, g.fix.trans F2⟩
      have na2 : ∀ a, frAll vs l' a → H a = none := fun a z => na a (A2 a z)
      cases R2 with
      | nil => cases e2
      | @cons v vs r1 rs r1k r2 r3 =>
        unfold parG at e2
        have e2' : ∃ ρ4, put1 r1 (.nm i own) ρ2 = some ρ4 ∧ parG (.cons (.nm j own2) .nil) rs ρ4 = some ρ3 := by
          cases r1 with
          | fr d =>
            simp only [put1] at e2 ⊢
            cases q : asgG (.nm i own) d true ρ2 with
            | none => rw [q] at e2; cases e2
            | some ρ4 => rw [q] at e2; exact ⟨ρ4, rfl, e2⟩
          | fz d =>
            simp only [put1] at e2 ⊢
            cases q : asgG (.nm i own) d false ρ2 with
            | none => rw [q] at e2; cases e2
            | some ρ4 => rw [q] at e2; exact ⟨ρ4, rfl, e2⟩
          | _ => cases e2
        obtain ⟨ρ4, e3, e4⟩ := e2'
        have new : ∀ {u : V} {r : Rs}, (∀ a, frA u r = some a → H a = none) → NewOk H u r := fun {u r} hh => by
          cases r with
          | fr d => exact fun q eq => hh q (by rw [eq]; rfl)
          | gv d => exact fun q eq => hh q (by rw [eq]; rfl)
          | _ => trivial
        obtain ⟨G3, g3, k1, k2', k3⟩ := putR E g2 r1k (new fun a z => na2 a (.inl z)) e3
        cases r2 with
        | nil => cases e4
        | @cons u us r2 rs2 r2k r4 r5 =>
          unfold parG at e4
          have e4' : ∃ ρ5, put1 r2 (.nm j own2) ρ4 = some ρ5 ∧ parG .nil rs2 ρ5 = some ρ3 := by
            cases r2 with
            | fr d =>
              simp only [put1] at e4 ⊢
              cases q : asgG (.nm j own2) d true ρ4 with
              | none => rw [q] at e4; cases e4
              | some ρ5 => rw [q] at e4; exact ⟨ρ5, rfl, e4⟩
            | fz d =>
              simp only [put1] at e4 ⊢
              cases q : asgG (.nm j own2) d false ρ4 with
              | none => rw [q] at e4; cases e4
              | some ρ5 => rw [q] at e4; exact ⟨ρ5, rfl, e4⟩
            | _ => cases e4
          obtain ⟨ρ5, e5, e6⟩ := e4'
          have e7 : us = [] ∧ ρ5 = ρ3 := by
            cases r4 with
            | nil => cases e6; exact ⟨rfl, rfl⟩
            | cons _ _ _ => cases e6
          obtain ⟨rfl, rfl⟩ := e7
          have r2k' : ResOk T.fa T.K G3 H1 ρ4 (σ.set i (some v)) u r2 := by
            cases r2 with
            | fz d => exact Rp.mono k3 r2k
            | fr d =>
              obtain ⟨q, eq, n, ll, o⟩ := r2k
              subst eq
              have ne : frA v r1 ≠ some q := fun z => r3 q z (.inl rfl)
              exact ⟨q, rfl, by rw [k1 q ne]; exact n, fun z => (k2' q z).elim ll ne, o.step k3 rfl⟩
            | _ => cases e5
          obtain ⟨G4, g4, _⟩ := putR E g3 r2k' (new fun a z => na2 a (.inr (.inl z))) e5
          exact ⟨v, u, rfl, h1 _ G4 H1 g4⟩
end
end Ev
end

section
set_option Elab.async false
set_option linter.all false
set_option maxRecDepth 100000
set_option maxHeartbeats 1000000
/-! EvV: a def keeps its promise. -/
namespace Ev
open PySem PySem.Spec L2

/-- the end of a def's body -/
theorem fn_g {P : Program} {w : World} {K : PySem.W.Frag} {mg : Str → Option Value} {base : Heap} {k : Nat} {f : Addr} {x qual : Str} {params : Arguments} {body : List Stmt} {scope : Scope} {fd : FuncData} {N ps : List Str} {sp : Sp} {dvs : List V} {kws : List (Str × V)}
    (F : FunD K x qual params body scope dvs kws f fd) (S : FnScope N ps scope) (len : ∀ vs H Q E, sp vs H Q E → vs.length = ps.length)
    (hbody : ∀ (cdv : Value) (A : Around) (outer : List PySem.Env) (s : Shared) (H : Hp) (vs : List V) (Q : VK) (E : XK), A.guards = some [] → Room k (A.deeper (PyProof.Rows.envOfC qual scope s.heap.objs.size f cdv)) → sp vs H Q E →
      ∃ t, PSs (cxOf (CX P w) P w K mg base N qual scope f cdv A outer s H E) body t ∧ t { nx := fun _ H' => Q .non H', rt := Q } (L2.start N vs) H) : FnG P w K mg base (k + 1) f fd ps sp := by
  obtain ⟨oc, od, dV, kV, doc, pm, an, cdv, ct, osl, rfl, lk, hcd, _, _⟩ := F.ex
  refine ⟨len, fun A outer s H args us vs Q E hg hr e0 hb r hsp => ?_⟩
  have inK : K.In s.heap := e0.mod.kin.keeps fun b o e => (e0.bs b o e).1
  have hl := len _ _ _ _ hsp
  have kinds : ∀ y ∈ ps.zip us, scope.names.lookup y.1 = some .local ∨ (scope.names.lookup y.1 = some .cell ∧ ((cellsFrom (s.heap.objs.size + 1) scope.names []).lookup y.1).isSome = true) := fun ⟨n, v⟩ hy =>
    (S.par n (List.of_mem_zip hy).1).imp id fun q => ⟨q, PySem.W.cellsFrom_some _ _ _ (.inl q)⟩
  refine codeAny_call_function hr.depth (inK _ _ lk) rfl S.co S.gen rfl (PySem.W.codeRec_of inK hcd) (hb _ _ _ _ (wpAny_newFunctionEnv_cells S.kind kinds fun env he s1 ic => ?_))
  subst he
  refine ⟨(e0.mod.nolimit.keeps fun b o e => (e0.bs b o e).1).keeps ic.toInCall.keep, codeAny_func ?_⟩
  obtain ⟨t, ht, hq⟩ := hbody cdv A outer s H vs Q E hg (hr.deeper _) hsp
  refine wpAny_mono (ht.run [] s1 (L2.start N vs) H _ (inv_start S hr.hd e0 hl r ic) hq) (fun fl s' hs => ?_) fun e s' hs => hs
  cases fl with
  | ret u =>
    obtain ⟨v, σ', H', J, rv, q⟩ := hs
    exact ⟨v, H', J.os, J.bare, J.base, J.hok, rv, q⟩
  | next =>
    obtain ⟨σ', H', J, q⟩ := hs
    exact ⟨.non, H', J.os, J.bare, J.base, J.hok, rfl, q⟩
  | brk => obtain ⟨_, _, _, q⟩ := hs; exact q.elim
  | cont => obtain ⟨_, _, _, q⟩ := hs; exact q.elim

section
variable {T : Tb} {G G' H H' : Hp} {as : List Slot} {vs : List V} {n : Nat}
theorem slot_app (as : List Slot) (m i : Nat) : slot (as.map some ++ List.replicate m none) i = as[i]? := by
  unfold slot
  by_cases h : i < as.length
  · rw [List.getElem?_append_left (by simpa using h), List.getElem?_map]
    cases as[i]? <;> rfl
  · rw [List.getElem?_append_right (by simpa using h), List.getElem?_replicate, List.getElem?_eq_none (Nat.le_of_not_lt h)]
    by_cases q : i - (as.map some).length < m
    · rw [if_pos q]
    · rw [if_neg q]
theorem start_get {N : List Str} {vs : List V} {i : Nat} (h : i < vs.length) : (L2.start N vs)[i]? = (vs.map some)[i]? := by
  unfold L2.start
  rw [List.getElem?_append_left (by simpa using h)]
/-- a body's names at its start -/
theorem body_env {N : List Str} (E : T.Env G H (as.map some) (vs.map some)) (hn : as.length ≤ N.length) : T.Env G H (as.map some ++ List.replicate (N.length - as.length) none) (L2.start N vs) ∧ ∀ a, Lof (as.map some ++ List.replicate (N.length - as.length) none) (L2.start N vs) a → Lof (as.map some) (vs.map some) a := by
  have hl : as.length = vs.length := by have := E.len; simpa using this
  refine fewer E (by unfold L2.start; simp [hl]) fun i s h => ?_
  rw [slot_app] at h
  have hi : i < vs.length := by rw [← hl]; exact (List.getElem?_eq_some_iff.mp h).1
  exact ⟨by rw [slot_map]; exact h, start_get hi⟩
/-- what was lent, at the end -/
theorem outsOf_get : ∀ {as : List Slot} {ρ : Ev.Env} {outs : List Ev.D}, outsOf as ρ = some outs → ∀ (i : Nat) (s : Slot), slot (outEnv as outs) i = some s → slot ρ i = some s
  | [], _, outs, h, i, s, e => by simp [outEnv, slot] at e
  | .ln c :: r, [], outs, h, i, s, e => by cases h
  | .ln c :: r, x :: ρ, outs, h, i, s, e => by
    unfold outsOf at h
    cases x with
    | none => cases h
    | some t =>
      cases t with
      | ln d =>
        simp only at h
        obtain ⟨o2, h1, h2⟩ := Option.map_eq_some_iff.mp h
        subst h2
        cases i with
        | zero => rw [outEnv, slot_zero] at e; cases e; rw [slot_zero]
        | succ i =>
          rw [outEnv, slot_cons] at e
          rw [slot_cons]
          exact outsOf_get h1 i s e
      | fz d => cases h
      | ow d => cases h
      | lk d => cases h
  | .fz c :: r, [], outs, h, i, s, e => by cases h
  | .ow c :: r, [], outs, h, i, s, e => by cases h
  | .lk c :: r, [], outs, h, i, s, e => by cases h
  | .fz c :: r, x :: ρ, outs, h, i, s, e => by
    have h' : outsOf r ρ = some outs := h
    cases i with
    | zero => rw [outEnv, slot_zero] at e; cases e
    | succ i => rw [outEnv, slot_cons] at e; rw [slot_cons]; exact outsOf_get h' i s e
  | .ow c :: r, x :: ρ, outs, h, i, s, e => by
    have h' : outsOf r ρ = some outs := h
    cases i with
    | zero => rw [outEnv, slot_zero] at e; cases e
    | succ i => rw [outEnv, slot_cons] at e; rw [slot_cons]; exact outsOf_get h' i s e
  | .lk c :: r, x :: ρ, outs, h, i, s, e => by
    have h' : outsOf r ρ = some outs := h
    cases i with
    | zero => rw [outEnv, slot_zero] at e; cases e
    | succ i => rw [outEnv, slot_cons] at e; rw [slot_cons]; exact outsOf_get h' i s e
theorem outsOf_ln : ∀ {as : List Slot} {ρ : Ev.Env} {outs : List Ev.D}, outsOf as ρ = some outs → ∀ (i : Nat) (c : Ev.D), as[i]? = some (.ln c) → ∃ d, slot ρ i = some (.ln d)
  | [], _, outs, h, i, c, e => by simp at e
  | .ln _ :: r, [], outs, h, i, c, e => by cases h
  | .ln _ :: r, x :: ρ, outs, h, i, c, e => by
    unfold outsOf at h
    cases x with
    | none => cases h
    | some t =>
      cases t with
      | ln d =>
        simp only at h
        obtain ⟨o2, h1, h2⟩ := Option.map_eq_some_iff.mp h
        cases i with
        | zero => exact ⟨d, by rw [slot_zero]⟩
        | succ i => rw [slot_cons]; exact outsOf_ln h1 i c (by simpa using e)
      | fz d => cases h
      | ow d => cases h
      | lk d => cases h
  | .fz _ :: r, [], outs, h, i, c, e => by cases h
  | .ow _ :: r, [], outs, h, i, c, e => by cases h
  | .lk _ :: r, [], outs, h, i, c, e => by cases h
  | .fz _ :: r, x :: ρ, outs, h, i, c, e => by
    have h' : outsOf r ρ = some outs := h
    cases i with
    | zero => simp at e
    | succ i => rw [slot_cons]; exact outsOf_ln h' i c (by simpa using e)
  | .ow _ :: r, x :: ρ, outs, h, i, c, e => by
    have h' : outsOf r ρ = some outs := h
    cases i with
    | zero => simp at e
    | succ i => rw [slot_cons]; exact outsOf_ln h' i c (by simpa using e)
  | .lk _ :: r, x :: ρ, outs, h, i, c, e => by
    have h' : outsOf r ρ = some outs := h
    cases i with
    | zero => simp at e
    | succ i => rw [slot_cons]; exact outsOf_ln h' i c (by simpa using e)
/-- back to the caller: from the body's names to what was lent -/
theorem leave {N : List Str} {ρ' : Ev.Env} {σ' : L2.St} {outs : List Ev.D} (E : T.Env G H (as.map some) (vs.map some)) (hn : as.length ≤ N.length) (g : Go T G H (as.map some ++ List.replicate (N.length - as.length) none) (L2.start N vs) G' H' ρ' σ') (ho : outsOf as ρ' = some outs) :
    T.Env G' H' (outEnv as outs) (vs.map some) ∧ Step (Lof (as.map some) (vs.map some)) (Lof (outEnv as outs) (vs.map some)) G H G' H' ∧ ∀ a, Lof (outEnv as outs) (vs.map some) a → Lof ρ' σ' a := by
  have hl : as.length = vs.length := by have := E.len; simpa using this
  obtain ⟨E0, L0⟩ := body_env E hn
  obtain ⟨k1, k2⟩ := fewer (ρ' := outEnv as outs) (σ' := vs.map some) g.env (by rw [outEnv_length]; simpa using hl) fun i s h => by
    refine ⟨outsOf_get ho i s h, ?_⟩
    obtain ⟨⟨d, rfl⟩, c, hc⟩ := outEnv_ln h
    have hi : i < vs.length := by rw [← hl]; exact (List.getElem?_eq_some_iff.mp hc).1
    obtain ⟨_, q2, _⟩ := g.fix i (by rw [outsOf_get ho i _ h]; exact Nat.succ_ne_zero 1)
    rw [q2, start_get hi]
  exact ⟨k1, (g.step.from L0).weak k2, k2⟩
/-- the def's end, read -/
theorem finish_read {N : List Str} {fdE : Fn} {fl : F} {Q : VK} {E : XK} (no : noOw as) (Ea : T.Env G H (as.map some) (vs.map some)) (hn : as.length ≤ N.length)
    (h : match finish fdE as fl with
      | .ok fr d outs => ∀ v G' H', T.Env G' H' (outEnv as outs) (vs.map some) → Step (Lof (as.map some) (vs.map some)) (Lof (outEnv as outs) (vs.map some)) G H G' H' →
          ResOk T.fa T.K G' H' (outEnv as outs) (vs.map some) v (if fr then .fr d else .fz d) → NewOk H v (if fr then .fr d else .fz d) → Q v H'
      | .ex c d outs => ∀ G' H' cls dd, T.Env G' H' (outEnv as outs) (vs.map some) → Step (Lof (as.map some) (vs.map some)) (Lof (outEnv as outs) (vs.map some)) G H G' H' → ExOk T G' H' cls dd c d → E cls dd H'
      | .no => False) :
    RunS T (fun cls d _ H' => E cls d H') G H (as.map some ++ List.replicate (N.length - as.length) none) (L2.start N vs) fl { nx := fun _ H' => Q .non H', rt := Q } := by
  have hl : as.length = vs.length := by have := Ea.len; simpa using this
  obtain ⟨E0, L0⟩ := body_env Ea hn
  cases fl with
  | nx ρ' =>
    unfold finish at h
    cases ho : outsOf as ρ' with
    | none => simp only [ho] at h
    | some outs =>
      simp only [ho] at h
      intro σ' G' H' g
      obtain ⟨k1, k2, _⟩ := leave Ea hn g ho
      exact h .non G' H' k1 k2 .non trivial
  | rt r ρ' =>
    unfold finish at h
    cases r with
    | fz d =>
      cases ho : outsOf as ρ' with
      | none => simp only [ho] at h
      | some outs =>
        simp only [ho] at h
        intro v σ' G' H' g rk nk
        obtain ⟨k1, k2, _⟩ := leave Ea hn g ho
        exact h v G' H' k1 k2 rk trivial
    | fr d =>
      cases ho : outsOf as ρ' with
      | none => simp only [ho] at h
      | some outs =>
        simp only [ho] at h
        intro v σ' G' H' g rk nk
        obtain ⟨k1, k2, k3⟩ := leave Ea hn g ho
        obtain ⟨q, e1, hq, lq, o⟩ := rk
        cases hf : fdE.fr with
        | true =>
          rw [hf] at h
          exact h v G' H' k1 k2 ⟨q, e1, hq, fun z => lq (k3 q z), o⟩ nk
        | false =>
          rw [hf] at h
          subst e1
          obtain ⟨G2, j1, j2, j3, j4, j5⟩ := freeze_new k1 hq (fun z => lq (k3 q z)) o
          have hnew : H q = none := nk q rfl
          refine h (.ref q) G2 H' j5 ⟨k2.mono.trans j2, fun a q1 q2 q3 => ?_, k2.dom, k2.still⟩ j1 trivial
          obtain ⟨f1, f2, f3⟩ := k2.keep a q1 q2 q3
          have ne : a ≠ q := fun z => q1 (by rw [z]; exact hnew)
          exact ⟨f1, by rw [j3 a ne]; exact f2, f3⟩
    | sl i =>
      cases hs : slot ρ' i with
      | none => simp only [hs] at h
      | some t =>
        cases t with
        | fz d =>
          simp only [hs] at h
          cases ho : outsOf as ρ' with
          | none => simp only [ho] at h
          | some outs =>
            simp only [ho] at h
            intro v σ' G' H' g rk nk
            obtain ⟨k1, k2, _⟩ := leave Ea hn g ho
            obtain ⟨u, hu, ok⟩ := g.env.val i _ hs
            rw [rk.1] at hu
            cases hu
            exact h v G' H' k1 k2 ok trivial
        | ow d =>
          simp only [hs] at h
          cases ho : outsOf as ρ' with
          | none => simp only [ho] at h
          | some outs =>
            simp only [ho] at h
            intro v σ' G' H' g rk nk
            obtain ⟨k1, k2, k3⟩ := leave Ea hn g ho
            obtain ⟨u, hu, q, e1, hq, o⟩ := g.env.val i _ hs
            rw [rk.1] at hu
            cases hu
            subst e1
            have hL : Lof ρ' σ' q := ⟨i, _, hs, rfl, rk.1⟩
            -- none of the lent ones
            have nout : ¬ Lof (outEnv as outs) (vs.map some) q := fun ⟨j, s, z1, z2, z3⟩ => by
              have hj := outsOf_get ho j s z1
              obtain ⟨⟨c, rfl⟩, c2, hc⟩ := outEnv_ln z1
              have hlt : j < vs.length := by rw [← hl]; exact (List.getElem?_eq_some_iff.mp hc).1
              obtain ⟨_, q2, _⟩ := g.fix j (by rw [hj]; exact Nat.succ_ne_zero 1)
              have e2 : σ'[j]? = some (some (.ref q)) := by rw [q2, start_get hlt]; exact z3
              have := g.env.inj i j _ _ hs hj rfl rfl (by rw [rk.1, e2])
              subst this
              rw [hs] at hj
              cases hj
            -- it wasn't there at the start
            have hnew : H q = none := by
              cases e0 : H q with
              | none => rfl
              | some w =>
                exfalso
                by_cases hl0 : Lof (as.map some ++ List.replicate (N.length - as.length) none) (L2.start N vs) q
                · obtain ⟨j, s, z1, z2, z3⟩ := hl0
                  rw [slot_app] at z1
                  have hlt : j < vs.length := by rw [← hl]; exact (List.getElem?_eq_some_iff.mp z1).1
                  cases s with
                  | ln c =>
                    obtain ⟨d2, hj⟩ := outsOf_ln ho j c z1
                    obtain ⟨_, q2, _⟩ := g.fix j (by rw [hj]; exact Nat.succ_ne_zero 1)
                    have := g.env.inj i j _ _ hs hj rfl rfl (by rw [rk.1, q2, z3])
                    subst this
                    rw [hs] at hj
                    cases hj
                  | ow c => exact no j c z1
                  | fz c => cases z2
                  | lk c => cases z2
                · by_cases hg : G q = none
                  · exact (g.step.keep q (by rw [e0]; simp) hg hl0).2.2 hL
                  · cases e3 : G q with
                    | none => exact hg e3
                    | some w2 =>
                      rcases g.step.mono.rd q w2 (.inl e3) with r | ⟨w3, r⟩ <;> (rw [hq] at r; cases r)
            cases hf : fdE.fr with
            | true =>
              rw [hf] at h
              exact h (.ref q) G' H' k1 k2 ⟨q, rfl, hq, nout, o⟩ fun q' e' => by cases e'; exact hnew
            | false =>
              rw [hf] at h
              obtain ⟨G2, j1, j2, j3, j4, j5⟩ := freeze_new k1 hq nout o
              refine h (.ref q) G2 H' j5 ⟨k2.mono.trans j2, fun a q1 q2 q3 => ?_, k2.dom, k2.still⟩ j1 trivial
              obtain ⟨f1, f2, f3⟩ := k2.keep a q1 q2 q3
              have ne : a ≠ q := fun z => q1 (by rw [z]; exact hnew)
              exact ⟨f1, by rw [j3 a ne]; exact f2, f3⟩
        | ln d => simp only [hs] at h
        | lk d => simp only [hs] at h
    | _ => exact h.elim
  | ex c d ρ' =>
    unfold finish at h
    cases ho : outsOf as ρ' with
    | none => simp only [ho] at h
    | some outs =>
      simp only [ho] at h
      intro σ' G' H' cls dd g x
      obtain ⟨k1, k2, _⟩ := leave Ea hn g ho
      exact h G' H' cls dd k1 k2 x
  | _ => exact h.elim
/-- a def of the text keeps the promise that the evaluator tells -/
theorem fn_ev {n i k : Nat} {fdE : Fn} {f : Addr} {x qual : Str} {params : Arguments} {body : List Stmt} {scope : Scope} {fd : FuncData} {N ps : List Str} {dvs : List V} {kws : List (Str × V)} (hi : T.pr.fns[i]? = some fdE) (F : FunD T.K x qual params body scope dvs kws f fd) (S : FnScope N ps scope)
    (hN : fdE.many = N.length) (hA : fdE.args = ps.length) (hrep : T.pr.rep = repD)
    (hbody : ∀ (X : Cx) (W : WX), XOk T W X → X.N = N → X.env.scope = scope → (∀ x, X.fn x = true) → Room n X.A → PassesOwn (model X.prog X.w) X.A X.env X.xe → SB T W X ⟨callN T.pr n, T.pr.glob, T.pr.rep⟩ T.pr.fuel body fdE.body) :
    FnG T.prog T.w T.K T.mg T.base (n + 1) f fd ps (spEv T (callN T.pr (n + 1)) i) := by
  have len : ∀ vs H Q E, spEv T (callN T.pr (n + 1)) i vs H Q E → vs.length = ps.length := fun vs H Q E ⟨G, as, no, Ea, h⟩ => by
    have hl : as.length = vs.length := by have := Ea.len; simpa using this
    unfold callN at h
    simp only [hi] at h
    by_cases q : as.length = fdE.args
    · rw [← hl, q, hA]
    · rw [if_neg q] at h; exact h.elim
  refine fn_g F S len fun cdv A outer s H vs Q E hg hr hsp => ?_
  have hsp0 := hsp
  obtain ⟨G, as, no, Ea, h⟩ := hsp
  have hl : as.length = vs.length := by have := Ea.len; simpa using this
  have hpl : ps.length ≤ N.length := by have := congrArg List.length S.pre; rw [List.length_take] at this; omega
  have hn : as.length ≤ N.length := by rw [hl, len _ _ _ _ hsp0]; exact hpl
  unfold callN at h
  simp only [hi] at h
  by_cases q : as.length = fdE.args
  · rw [if_pos q, hN] at h
    have O : XOk T (fun cls d _ H' => E cls d H') (cxOf (CX T.prog T.w) T.prog T.w T.K T.mg T.base N qual scope f cdv A outer s H E) :=
      ⟨rfl, rfl, rfl, rfl, rfl, rfl, by have := hr.un; show (A.deeper _).units + 66 < cLine; omega, hg, takes_of rfl rfl rfl rfl, hrep⟩
    refine ⟨_, (hbody _ _ O rfl rfl (fun _ => rfl) hr (passes_of rfl)).pss, G, _, (body_env Ea hn).1, ?_⟩
    exact finish_read no Ea hn h
  · rw [if_neg q] at h; exact h.elim
end
end Ev
end

section
set_option Elab.async false
set_option linter.all false
set_option maxRecDepth 100000
set_option maxHeartbeats 1000000
/-! EvY: lists and dicts that are changed; targets with subscripts. -/
namespace Ev
open PySem PySem.Spec L2

section
variable {T : Tb} {W : WX} {X : Cx} {p : Par} {w : Nat} {G G1 G' H H1 H' : Hp} {ρ ρ' ρ1 : Ev.Env} {σ σ' σ1 : L2.St} {v : V} {d d' : Ev.D} {e : Expr} {A : Ev.E} {pos : Pos}
/-- a slot of the same kind, with another value -/
def reSlot (s : Slot) (d : Ev.D) : Slot := match s with
  | .ow _ => .ow d
  | .ln _ => .ln d
  | s => s
theorem own_write (E : T.Env G H ρ σ) {i : Nat} {s : Slot} {q : Addr} {o : HO} (hs : slot ρ i = some s) (hw : isOw s = true) (hq : σ[i]? = some (some (.ref q))) (h : Own T.fa T.K G (upd H q o) q d') :
    Go T G H ρ σ G (upd H q o) (ρ.set i (some (reSlot s d'))) σ := by
  have hi := slot_lt hs
  have hL : Lof ρ σ q := ⟨i, s, hs, hw, hq⟩
  have hG : G q = none := (E.lof hL).2
  have hw' : isOw (reSlot s d') = true := by cases s <;> first | rfl | cases hw
  have old : ∀ j t, slot (ρ.set i (some (reSlot s d'))) j = some t → (j = i ∧ t = reSlot s d') ∨ (j ≠ i ∧ slot ρ j = some t) := fun j t h => by
    rw [slot_set'] at h
    by_cases e : i = j
    · subst e
      rw [if_pos rfl, if_pos hi] at h
      cases h
      exact .inl ⟨rfl, rfl⟩
    · rw [if_neg e] at h
      exact .inr ⟨fun z => e z.symm, h⟩
  have ls : ∀ a, Lof (ρ.set i (some (reSlot s d'))) σ a → Lof ρ σ a := fun a ⟨j, t, h1, h2, h3⟩ => by
    rcases old j t h1 with ⟨rfl, rfl⟩ | ⟨_, k1⟩
    · exact ⟨j, s, hs, hw, h3⟩
    · exact ⟨j, t, k1, h2, h3⟩
  refine ⟨⟨E.sub.out hG, E.low, by rw [List.length_set]; exact E.len, fun j t h1 => ?_, fun j k t u h1 h2 h3 h4 h5 => ?_⟩, ⟨Sub.refl _, fun a q1 q2 q3 => ?_, fun a q1 => ?_, fun a xs q1 q3 => ?_⟩, fun j hj => ?_⟩
  · rcases old j t h1 with ⟨rfl, rfl⟩ | ⟨ne, k1⟩
    · refine ⟨.ref q, hq, ?_⟩
      cases s with
      | ow c => exact ⟨q, rfl, hG, h⟩
      | ln c => exact ⟨q, rfl, hG, h⟩
      | fz c => cases hw
      | lk c => cases hw
    · obtain ⟨u, hu, ok⟩ := E.val j t k1
      refine ⟨u, hu, ?_⟩
      have far : isOw t = true → u ≠ .ref q := fun ht z => by
        subst z
        exact ne (E.inj j i t s k1 hs ht hw (by rw [hu, hq]))
      cases t with
      | fz c => exact ok
      | ow c =>
        obtain ⟨r, e, n, o'⟩ := ok
        subst e
        exact ⟨r, rfl, n, o'.step (Sub.refl _) (upd_ne fun z => far rfl (by rw [z]))⟩
      | ln c =>
        obtain ⟨r, e, n, o'⟩ := ok
        subst e
        exact ⟨r, rfl, n, o'.step (Sub.refl _) (upd_ne fun z => far rfl (by rw [z]))⟩
      | lk c =>
        rcases ok with ok | ⟨r, e, n, l, o'⟩
        · exact .inl ok
        · subst e
          exact .inr ⟨r, rfl, n, fun z => l (ls r z), o'.step (Sub.refl _) (upd_ne fun z => l (by rw [z]; exact hL))⟩
  · have kk : ∀ {j t}, slot (ρ.set i (some (reSlot s d'))) j = some t → isOw t = true → ∃ t', slot ρ j = some t' ∧ isOw t' = true := fun {j t} h1 h2 => by
      rcases old j t h1 with ⟨rfl, rfl⟩ | ⟨_, k1⟩
      · exact ⟨s, hs, hw⟩
      · exact ⟨t, k1, h2⟩
    obtain ⟨t', a1, a2⟩ := kk h1 h3
    obtain ⟨u', b1, b2⟩ := kk h2 h4
    exact E.inj j k t' u' a1 b1 a2 b2 h5
  · have ne : a ≠ q := fun z => q3 (by rw [z]; exact hL)
    exact ⟨upd_ne ne, .inl q2, fun z => q3 (ls a z)⟩
  · by_cases e : a = q
    · rw [e, upd_same]; simp
    · rw [upd_ne e]; exact q1
  · have ne : a ≠ q := fun z => q3 (by rw [z]; exact hL)
    exact ⟨upd_ne ne, fun z => q3 (ls a z)⟩
  · rw [slot_set'] at hj ⊢
    by_cases e : i = j
    · subst e
      rw [if_pos rfl, if_pos hi] at hj ⊢
      rw [hs]
      cases s with
      | ow c => exact absurd rfl hj
      | ln c => exact ⟨rfl, rfl, fun z => by cases z⟩
      | fz c => cases hw
      | lk c => cases hw
    · rw [if_neg e] at hj ⊢
      exact ⟨rfl, rfl, fun _ => rfl⟩
/-- o[i] = v, by values, over data -/
def rSetE (T : Tb) : TSet := fun o i v H Q => ∃ G q dO dI dV d', o = .ref q ∧ Sub G H ∧ Own T.fa T.K G H q dO ∧ Rdb T.fa T.K G H i dI ∧ Rp T.fa T.K G v dV ∧ setD dO dI dV = some d' ∧ ∀ o', Own T.fa T.K G (upd H q o') q d' → Q (upd H q o')
theorem set_ev (hu : X.A.units + 66 < cLine) : PSet X (rSetE T) := by
  intro pins s σ H o i v ov iv u Q I ro ri rv h
  obtain ⟨G, q, dO, dI, dV, d', rfl, sb, own, hi, hv, hd, fin⟩ := h
  unfold setD at hd
  split at hd
  · rename_i xs n
    cases rdb_int hi
    rcases own with ⟨vs, ds, e, hh, r⟩ | ⟨_, _, _, e, _⟩ | ⟨_, _, _, e, _⟩
    · cases e
      obtain ⟨j, hj, rfl⟩ := Option.map_eq_some_iff.mp hd
      rw [ixD_eq, ← r.length] at hj
      exact set_list pins s σ H _ _ v ov iv u Q I ro ri rv ⟨q, vs, n, j, rfl, rfl, hh, hj, fin _ (.inl ⟨_, _, rfl, upd_same, r.set hv j⟩)⟩
    · cases e
    · cases e
  · rename_i t kvs
    split at hd
    · rename_i hz
      rw [Bool.and_eq_true, decide_eq_true_eq] at hz
      cases hd
      have rk : Rp T.fa T.K G i dI := by
        refine hi.flat (fun ds z => ?_) (fun t' es z => ?_)
        · subst z; cases t <;> cases hz.1
        · subst z; cases t <;> cases hz.1
      obtain ⟨o', dp, ow⟩ := own_put sb own hz.1 rk hv hz.2
      obtain rfl : ov = .ref q := ro
      exact d_setItem (by omega) I dp ri rv fun s' I' => ⟨_, I', fin o' ow⟩
    · cases hd
  · cases hd
/-- a target, read -/
def TTg (T : Tb) (W : WX) (p : Par) (t : Ev.T) : TG := fun v σ H Q => ∃ G ρ d, T.Env G H ρ σ ∧ Rp T.fa T.K G v d ∧ RunS T W G H ρ σ (asgT p t d false ρ) { nx := Q, rt := fun _ _ => False }
def TTgs (T : Tb) (W : WX) (p : Par) (t : Ev.T) : TGs := fun vs σ H Q => ∃ G ρ ds, T.Env G H ρ σ ∧ RpA T.fa T.K G vs ds ∧ RunS T W G H ρ σ (asgT p t (.lst ds) false ρ) { nx := Q, rt := fun _ _ => False }
structure ST (T : Tb) (W : WX) (X : Cx) (p : Par) (e : Expr) (t : Ev.T) : Prop where
  pg : PG X e (TTg T W p t)
  ns : noStar e = true
structure STs (T : Tb) (W : WX) (X : Cx) (p : Par) (es : List Expr) (t : Ev.T) : Prop where
  pgs : PGs X es (TTgs T W p t)
  ns : es.all noStar = true
  len : t.count = es.length
theorem st_nm {i : Nat} {x : Str} {own : Bool} (hN : X.N.Nodup) (hi : X.N[i]? = some x) (hx : Loc X.env.scope x) (hf : X.fn x = true ∨ X.env.scope.names.lookup x = some .local) : ST T W X p (.Name x pos) (.nm i own) := by
  refine ⟨⟨fun pins s σ H v u Q I r h => (pg_name hN hi hx hf).run pins s σ H v u Q I r ?_⟩, rfl⟩
  obtain ⟨G, ρ, d, E, rp, h⟩ := h
  unfold asgT at h
  cases e : asgG (.nm i own) d false ρ with
  | none => rw [e] at h; exact h.elim
  | some ρ' =>
    rw [e] at h
    rw [asgG_nm] at e
    exact h _ G H (asg_fz E rp e).go
def noSlice : Expr → Bool
  | .Slice _ _ _ _ => false
  | _ => true
theorem st_ix (O : XOk T W X) {j : Nat} {x : Str} {b : Expr} {B : Ev.E} {px : Pos} (hN : X.N[j]? = some x) (hv : Vis X.env.scope x) (hd : (x == ("__debug__" : Str)) = false) (hcd : (x == ("__classdict__" : Str)) = false) (hb : SE T W X p b B) (hsl : noSlice b = true) : ST T W X p (.Subscript (.Name x px) b pos) (.ix j B) := by
  refine ⟨⟨fun pins s σ H v u Q I r h => (pg_sub (pe_var hN hv hd hcd) hb.pe (set_ev (T := T) O.units) (fun v => by cases b <;> first | rfl | cases hsl)).run pins s σ H v u Q I r ?_⟩, rfl⟩
  obtain ⟨G, ρ, d, E, rp, h⟩ := h
  unfold asgT at h
  cases e0 : slot ρ j with
  | none => rw [e0] at h; exact h.elim
  | some s0 =>
    rw [e0] at h
    simp only at h
    obtain ⟨o, ho, _⟩ := E.val j s0 e0
    refine ⟨o, ho, G, ρ, E, h.fl.mono fun x ρ1 i G1 H1 g rk nk h1 => ?_⟩
    cases e1 : rd x ρ1 with
    | none => rw [e1] at h1; exact h1.elim
    | some k =>
      rw [e1] at h1
      simp only at h1
      cases e2 : slot ρ1 j with
      | none => rw [e2] at h1; exact h1.elim
      | some s1 =>
        rw [e2] at h1
        have go : ∀ (hw : isOw s1 = true) (oD : Ev.D), (∃ q, o = .ref q ∧ G1 q = none ∧ Own T.fa T.K G1 H1 q oD) → RunS T W G H ρ σ (match setD oD k d with | some o' => .nx (ρ1.set j (some (reSlot s1 o'))) | none => .no) { nx := Q, rt := fun _ _ => False } → rSetE T o i v H1 fun H3 => Q σ H3 := fun hw oD ⟨q, e3, n, ow⟩ h2 => by
          subst e3
          cases e4 : setD oD k d with
          | none => rw [e4] at h2; exact h2.elim
          | some o' =>
            rw [e4] at h2
            refine ⟨G1, q, oD, k, d, o', rfl, g.env.sub, ow, rd_ok g.env rk e1, rp.mono g.step.mono, e4, fun ho' ow' => ?_⟩
            exact h2 σ G1 _ (g.toGo.trans (own_write g.env e2 hw ho ow'))
        obtain ⟨o2, ho2, ok⟩ := g.env.val j s1 e2
        rw [ho] at ho2
        cases ho2
        cases s1 with
        | ow oD => exact go rfl oD ok h1
        | ln oD => exact go rfl oD ok h1
        | fz oD => exact h1.elim
        | lk oD => exact h1.elim
theorem sts_nil : STs T W X p [] .nil := by
  refine ⟨⟨fun pins s σ H vs us Q I r h => pgs_nil.run pins s σ H vs us Q I r ?_⟩, rfl, rfl⟩
  obtain ⟨G, ρ, ds, E, rp, h⟩ := h
  cases ds with
  | nil => cases rp; exact ⟨rfl, h σ G H (Go.refl E)⟩
  | cons d ds => exact h.elim
theorem sts_cons {es : List Expr} {t ts : Ev.T} (h : ST T W X p e t) (hs : STs T W X p es ts) : STs T W X p (e :: es) (.cons t ts) := by
  refine ⟨⟨fun pins s σ H vs us Q I r h' => (pgs_cons h.pg hs.pgs (by rw [asgEach h.ns]; rfl)).run pins s σ H vs us Q I r ?_⟩, by rw [List.all_cons, h.ns, hs.ns]; rfl, by rw [List.length_cons, ← hs.len]; rfl⟩
  · obtain ⟨G, ρ, ds, E, rp, h'⟩ := h'
    cases ds with
    | nil => exact h'.elim
    | cons d ds =>
      cases rp with
      | @cons v vs _ _ h1 h2 =>
        unfold asgT at h'
        simp only at h'
        refine ⟨v, vs, rfl, G, ρ, d, E, h1, ?_⟩
        cases e1 : asgT p t d false ρ with
        | nx ρ1 =>
          rw [e1] at h'
          exact fun σ1 G1 H1 g => ⟨G1, ρ1, ds, g.env, h2.mono g.step.mono, h'.from g⟩
        | ex c x ρ1 => rw [e1] at h'; exact h'
        | bk ρ1 => rw [e1] at h'; exact h'.elim
        | ct ρ1 => rw [e1] at h'; exact h'.elim
        | rt x ρ1 => rw [e1] at h'; exact h'.elim
        | no => rw [e1] at h'; exact h'.elim
theorem st_tup (O : XOk T W X) {es : List Expr} {t : Ev.T} {k : Nat} (h : STs T W X p es t) : ST T W X p (.Tuple es k pos) (.tup t) := by
  obtain ⟨h1, h2⟩ := asgEach_all X.env h.ns
  refine ⟨⟨fun pins s σ H v u Q I r hw => (pg_tup O.calm h.pgs h1 h2).run pins s σ H v u Q I r ?_⟩, rfl⟩
  obtain ⟨G, ρ, d, E, rp, hr⟩ := hw
  unfold asgT at hr
  cases rp with
  | @tup a xs ds k1 k2 =>
    simp only at hr
    by_cases q : ds.length = t.count
    · rw [if_pos q] at hr
      exact ⟨a, xs, rfl, .inl (.inl (E.sub.tup _ _ k1)), by rw [k2.length, q, h.len], G, ρ, ds, E, k2, hr⟩
    · rw [if_neg q] at hr; exact hr.elim
  | @ktp a xs ds k1 k2 =>
    simp only at hr
    by_cases q : ds.length = t.count
    · rw [if_pos q] at hr
      exact ⟨a, xs, rfl, .inr (by rw [O.K]; exact k1), by rw [k2.length, q, h.len], G, ρ, ds, E, k2, hr⟩
    · rw [if_neg q] at hr; exact hr.elim
  | _ => exact hr.elim
theorem asgT_nx : ∀ (t : Ev.T) (d : Ev.D) (fr : Bool) (ρ : Ev.Env), (∃ ρ', asgT p t d fr ρ = .nx ρ') ∨ (∃ c x ρ', asgT p t d fr ρ = .ex c x ρ') ∨ asgT p t d fr ρ = .no := fun t => by
  induction t with
  | nm i own =>
    intro d fr ρ
    unfold asgT
    cases asgG (.nm i own) d fr ρ with
    | none => exact .inr (.inr rfl)
    | some ρ' => exact .inl ⟨ρ', rfl⟩
  | ix j e =>
    intro d fr ρ
    unfold asgT
    cases slot ρ j with
    | none => exact .inr (.inr rfl)
    | some s =>
      simp only
      cases ev p e ρ with
      | ok r ρ1 =>
        unfold R.fl
        simp only
        repeat' split
        all_goals first
          | exact .inl ⟨_, rfl⟩
          | exact .inr (.inr rfl)
      | ex c x ρ1 => exact .inr (.inl ⟨c, x, ρ1, rfl⟩)
      | no => exact .inr (.inr rfl)
  | nil =>
    intro d fr ρ
    unfold asgT
    repeat' split
    all_goals first
      | exact .inl ⟨_, rfl⟩
      | exact .inr (.inr rfl)
  | cons a b iha ihb =>
    intro d fr ρ
    unfold asgT
    split
    · rename_i x r
      rcases iha x false ρ with ⟨ρ1, e⟩ | ⟨c, y, ρ1, e⟩ | e
      · rw [e]; exact ihb _ _ _
      · rw [e]; exact .inr (.inl ⟨c, y, ρ1, rfl⟩)
      · rw [e]; exact .inr (.inr rfl)
    · exact .inr (.inr rfl)
  | tup l ih =>
    intro d fr ρ
    unfold asgT
    split
    · split
      · exact ih _ _ _
      · exact .inr (.inr rfl)
    · split
      · exact ih _ _ _
      · exact .inr (.inr rfl)
    · exact .inr (.inr rfl)
/-- target = e -/
theorem ss_asgT {tg : Expr} {t : Ev.T} (ht : ST T W X p tg t) (ha : SE T W X p e A) (nn : ∀ i o, t ≠ .nm i o) (hs : swapsWithSole [tg] e pos.line X.env = pure false) (hw : swappedStores [tg] e X.env = pure none) : SS T W X p w (.Assign [tg] e pos) (.asg t A) := by
  refine ⟨(ps_asg ha.pe ht.pg hs hw (by rw [asgEach ht.ns]; rfl)).imp fun D σ H ⟨G, ρ, E, h⟩ => ?_⟩
  unfold evS at h
  refine ⟨G, ρ, E, h.fl.mono fun x ρ1 v G1 H1 g rk nk h1 => ?_⟩
  cases e1 : tkFr x ρ1 with
  | none => rw [e1] at h1; exact h1.elim
  | some q =>
    obtain ⟨d, fr, ρ2⟩ := q
    rw [e1] at h1
    simp only at h1
    have e2 : tk x ρ1 = some (d, ρ2) := by
      cases x with
      | fr d' => cases e1; rfl
      | fz d' => cases e1; rfl
      | sl i =>
        unfold tkFr at e1
        obtain ⟨⟨d2, ρ2'⟩, h1, h2⟩ := Option.map_eq_some_iff.mp e1
        cases h2
        exact h1
      | _ => cases e1
    obtain ⟨G2, g2, r2, _⟩ := keep1 g rk nk e2
    have e3 : asgT p t d fr ρ2 = asgT p t d false ρ2 := by
      cases t with
      | nm i o => exact absurd rfl (nn i o)
      | _ => rfl
    rw [e3] at h1
    refine ⟨G2, ρ2, d, g2.env, r2, ?_⟩
    have h2 := h1.from g2.toGo
    cases e4 : asgT p t d false ρ2 with
    | nx ρ3 => rw [e4] at h2; exact h2
    | ex c x ρ3 => rw [e4] at h2; exact h2
    | bk ρ3 => rcases asgT_nx (p := p) t d false ρ2 with ⟨_, z⟩ | ⟨_, _, _, z⟩ | z <;> (rw [e4] at z; cases z)
    | ct ρ3 => rcases asgT_nx (p := p) t d false ρ2 with ⟨_, z⟩ | ⟨_, _, _, z⟩ | z <;> (rw [e4] at z; cases z)
    | rt x ρ3 => rcases asgT_nx (p := p) t d false ρ2 with ⟨_, z⟩ | ⟨_, _, _, z⟩ | z <;> (rw [e4] at z; cases z)
    | no => rw [e4] at h2; exact h2.elim
end
end Ev
end

section
set_option Elab.async false
set_option linter.all false
set_option maxRecDepth 100000
set_option maxHeartbeats 1000000
/-! EvZ: what is given away; methods of lists. -/
namespace Ev
open PySem PySem.Spec L2

section
variable {T : Tb} {W : WX} {X : Cx} {p : Par} {G G1 G' H H1 H' : Hp} {ρ ρ' ρ1 : Ev.Env} {σ σ' σ1 : L2.St} {v : V} {d d' : Ev.D} {e : Expr} {es : List Expr} {A B : Ev.E} {pos : Pos}
theorem s_give (O : XOk T W X) (ha : PE X e (TEv T W (ev p A))) (he : ∀ whole, isTrue e X.env whole = (do let v ← whole; standAt e.pos; holding [v] (truthy v))) : SE T W X p e (.give A) := by
  have h : PE X e (TEv T W (ev p (.give A))) := ha.imp fun σ H Q ⟨G, ρ, E, h⟩ => by
    unfold ev at h
    refine ⟨G, ρ, E, h.b1k.mono fun x ρ1 v G1 H1 g rk nk ⟨_, h1⟩ => ?_⟩
    cases x with
    | fr d => exact h1 v G1 H1 g rk nk
    | _ => exact h1.elim
  exact ⟨h, pt_plain O h he⟩
theorem lst_sq (E : T.Env G H ρ σ) {i : Nat} {s : Slot} (hs : slot ρ i = some s) (hl : isLst s.d = true) : ∃ v, σ[i]? = some (some v) ∧ tyV T.K "list" v H := by
  obtain ⟨v, hv, ok⟩ := E.val i s hs
  have a : ∀ {d}, isLst d = true → Rp T.fa T.K G v d → tyV T.K "list" v H := fun {d} h r => by
    cases r with
    | @lst a xs ds h1 h2 => exact .inl ⟨rfl, xs, .inl (E.sub.rd _ _ h1)⟩
    | _ => cases h
  have b : ∀ {d}, isLst d = true → (∃ q, v = .ref q ∧ Own T.fa T.K G H q d) → tyV T.K "list" v H := fun {d} h ⟨q, e, o⟩ => by
    subst e
    rcases o with ⟨vs, ds, rfl, k, _⟩ | ⟨_, _, _, rfl, _⟩ | ⟨_, _, _, rfl, _⟩
    · exact .inl ⟨rfl, vs, SqL.of k⟩
    · cases h
    · cases h
  refine ⟨v, hv, ?_⟩
  cases s with
  | fz d => exact a hl ok
  | ow d => obtain ⟨q, e, _, o⟩ := ok; exact b hl ⟨q, e, o⟩
  | ln d => obtain ⟨q, e, _, o⟩ := ok; exact b hl ⟨q, e, o⟩
  | lk d =>
    rcases ok with ok | ⟨q, e, _, _, o⟩
    · exact a hl ok
    · exact b hl ⟨q, e, o⟩
theorem own_writeE (E : T.Env G H ρ σ) {i : Nat} {s : Slot} {q : Addr} {o : HO} (hs : slot ρ i = some s) (hw : isOw s = true) (hq : σ[i]? = some (some (.ref q))) (h : Own T.fa T.K G (upd H q o) q d') :
    GoE T G H ρ σ G (upd H q o) (ρ.set i (some (reSlot s d'))) := ⟨own_write E hs hw hq h, some_set⟩
/-- the end of an append -/
theorem app_end {X1 : Rs → Ev.Env → V → Hp → Hp → Prop} (g : GoE T G H ρ σ G1 H1 ρ1) {i : Nat} {l : List Rs} {vs : List V} (ra : RsA T.fa T.K G1 H1 ρ1 σ vs l) (na : NewAll H vs l) {v : V} (hv : σ[i]? = some (some v)) {Q : VK}
    (h : Run T W G H ρ σ (match tkAll l ρ1 with
        | some (ds, ρ2) => (match slot ρ2 i with
          | some (.ow d) => (match muD .append d ds with
            | some (r, d') => .ok (.fz r) (ρ2.set i (some (.ow d')))
            | none => .no)
          | some (.ln d) => (match muD .append d ds with
            | some (r, d') => .ok (.fz r) (ρ2.set i (some (.ln d')))
            | none => .no)
          | _ => .no)
        | none => .no) fun _ _ v _ H' => Q v H') : rAppend v vs H1 Q := by
  cases e1 : tkAll l ρ1 with
  | none => rw [e1] at h; exact h.elim
  | some q =>
    obtain ⟨ds, ρ2⟩ := q
    rw [e1] at h
    simp only at h
    obtain ⟨G2, g2, r2, _⟩ := keepAll g ra na e1
    have go : ∀ {s : Slot} {d : Ev.D}, slot ρ2 i = some s → isOw s = true → (∃ q, v = .ref q ∧ G2 q = none ∧ Own T.fa T.K G2 H1 q d) → Run T W G H ρ σ (match muD .append d ds with
            | some (r, d') => .ok (.fz r) (ρ2.set i (some (reSlot s d')))
            | none => .no) (fun _ _ v _ H' => Q v H') → rAppend v vs H1 Q := fun {s d} hs hw ⟨q, e, n, o⟩ h => by
      subst e
      rcases o with ⟨ws, xs, rfl, k, r⟩ | ⟨_, _, _, rfl, _⟩ | ⟨_, _, _, rfl, _⟩
      · cases r2 with
        | nil => exact h.elim
        | @cons u us x xs' a1 a2 =>
          cases a2 with
          | nil =>
            unfold muD at h
            simp only at h
            by_cases hz : xs.length < LIM
            · rw [if_pos hz] at h
              refine ⟨q, ws, u, rfl, rfl, k, by rw [r.length]; exact hz, ?_⟩
              have ow : Own T.fa T.K G2 (upd H1 q (.lst (ws ++ [u]))) q (.lst (xs ++ [x])) := .inl ⟨_, _, rfl, upd_same, r.append (.cons a1 .nil)⟩
              exact h _ _ _ (g2.trans (own_writeE g2.env hs hw hv ow)) .non trivial
            · rw [if_neg hz] at h; exact h.elim
          | cons _ _ => exact h.elim
      · exact h.elim
      · exact h.elim
    cases e2 : slot ρ2 i with
    | none => rw [e2] at h; exact h.elim
    | some s =>
      rw [e2] at h
      obtain ⟨v', hv', ok⟩ := g2.env.val i s e2
      rw [hv] at hv'
      cases hv'
      cases s with
      | ow d => exact go e2 rfl ok h
      | ln d => exact go e2 rfl ok h
      | fz d => exact h.elim
      | lk d => exact h.elim
theorem s_app (O : XOk T W X) {i : Nat} {x : Str} {px apos : Pos} (hN : X.N[i]? = some x) (hv : Vis X.env.scope x) (hd : (x == ("__debug__" : Str)) = false) (hcd : (x == ("__classdict__" : Str)) = false) (hline : (apos.endLine == pos.line) = true) (ha : SA T W X p [e] A) :
    SE T W X p (.Call (.Attribute (.Name x px) "append" apos) [e] [] pos) (.mu .append i A) := by
  have ns : noStar e = true := by have := ha.ns; rw [List.all_cons, Bool.and_eq_true] at this; exact this.1
  have h : PE X (.Call (.Attribute (.Name x px) "append" apos) [e] [] pos) (TEv T W (ev p (.mu .append i A))) := (pe_bm F.plainAttrs_list F.slot_list_append F.type_list_append mt_append (pe_var hN hv hd hcd) ha.pa rfl (by rw [star1 ns]; rfl) hline (star1 ns _) rfl).imp fun σ H Q ⟨G, ρ, E, h⟩ => by
    unfold ev at h
    cases e0 : slot ρ i with
    | none => rw [e0] at h; exact h.elim
    | some s =>
      rw [e0] at h
      simp only at h
      by_cases hl : isLst s.d = true
      · rw [if_pos hl] at h
        obtain ⟨v, h1, h2⟩ := lst_sq E e0 hl
        refine ⟨v, h1, by rw [O.K]; exact h2, G, ρ, E, h.blk.mono fun l ρ1 vs G1 H1 g ra na h3 => ?_⟩
        exact app_end (X1 := fun _ _ _ _ _ => True) g ra na h1 h3
      · rw [if_neg hl] at h; exact h.elim
  exact ⟨h, pt_plain O h fun _ => rfl⟩
end
end Ev
end

section
set_option Elab.async false
set_option linter.all false
set_option maxRecDepth 100000
set_option maxHeartbeats 1000000
/-! EvW: a dict's items into another one, as the displays do it. -/
namespace Ev
open PySem PySem.Spec
section
variable {prog : Program} {w : World} {K : Type} [DecidableEq K] {knd : KeyKind prog w K} {A : Around} {E : Value → Shared → Prop} {s : Shared}
theorem find_list {α : Type} (f : α → Bool) (es : Array α) : es.toList.findIdx? f = es.findIdx? f := by
  cases es
  simp
theorem put_walk {d : Addr} {kvs : List (K × Value)} {k : K} {key v : Value} {Q : Unit → Shared → Prop} (hkey : knd.is k key = true) (hm : s.heap.DictOf knd d kvs) (hsz : kvs.length ≤ sizeLine)
    (hQ : ∀ h', h'.DictOf knd d (stored kvs k v) → Heap.SameBut d s.heap h' → Q () { s with heap := h' }) : wpAny (model prog w) A (dictPut d (knd.hash k) key v) Q E s := by
  obtain ⟨o, es, ep, ho, hc, hd, hk, hp, hn⟩ := hm
  have hes : es.size ≤ sizeLine := by
    have e1 := hp.length
    rw [Array.length_toList] at e1
    omega
  have hidx : (es.findIdx? fun e => knd.is k e.key) = kvs.findIdx? fun kv => decide (kv.1 = k) := by
    rw [← hp.findIdx k, find_list]
  unfold dictPut
  refine wpAny_bind (wpAny_dictFind_of hkey ho hd hk ?_)
  cases hi : es.findIdx? fun e => knd.is k e.key with
  | some i =>
    have hany := any_of_findIdx_some (hidx ▸ hi)
    refine wpAny_updateDict ho hd (hQ _ ⟨_, _, ep, Heap.get?_update_self _ ho (Obj.isFreed_of_dict (Obj.data_mapDict hd _)), hc.mapDict _, Obj.data_mapDict hd _, hk.modify _ _, ?_, ?_⟩ (Heap.SameBut.update ..))
    · rw [stored, if_pos hany]
      have hl : (es.toList.findIdx? fun e => knd.is k e.key) = some i := by rw [find_list]; exact hi
      rw [Array.toList_modify]
      exact hp.modify hn hl v
    · rw [stored, if_pos hany, keys_map_store]
      exact hn
  | none =>
    have hnot : k ∉ kvs.map (·.1) := not_mem_of_findIdx_none (hidx ▸ hi)
    have hany : ¬ (kvs.any fun kv => decide (kv.1 = k)) = true := fun z => by
      obtain ⟨kv, h1, h2⟩ := List.any_eq_true.mp z
      exact hnot (List.mem_map.mpr ⟨kv, h1, of_decide_eq_true h2⟩)
    refine wpAny_updateDictKeys (hz := hes) ho hd (hQ _ ⟨_, _, ep + 1, Heap.get?_update_self _ ho (Obj.isFreed_of_dict (Obj.data_mapDictKeys hd _)), hc.mapDictKeys _, Obj.data_mapDictKeys hd _, hk.push hkey _, ?_, ?_⟩ (Heap.SameBut.update ..))
    · rw [stored, if_neg hany, Array.toList_push]
      exact hp.append hkey (knd.hash k) v
    · rw [stored, if_neg hany, List.map_append, List.nodup_append]
      refine ⟨hn, by simp, fun a ha b hb z => ?_⟩
      rw [List.map_cons, List.map_nil, List.mem_singleton] at hb
      subst hb
      subst z
      exact hnot ha
/-- the walk of a merge, item by item -/
def mergeGo (d o : Addr) : Sem Unit := do
  let es ← dictEntries o
  let epoch ← dictEpoch o
  forIn (List.range es.size) PUnit.unit fun i (_ : PUnit) => (do
    let es ← dictEntries o
    match es[i]? with
    | some e => do
      holding [e.key, e.val] (dictPut d e.hash e.key e.val)
      let ep ← dictEpoch o
      if (ep != epoch) = true then do
        (unsupported "dict.changed-during-merge" : Sem PUnit)
        pure (ForInStep.yield PUnit.unit)
      else pure (ForInStep.yield PUnit.unit)
    | _ => do
      (unsupported "dict.changed-during-merge" : Sem PUnit)
      pure (ForInStep.yield PUnit.unit) : Sem (ForInStep PUnit))
  pure ()
theorem mergeGo_walk {d o : Addr} {kvs more : List (K × Value)} {Q : Unit → Shared → Prop} (hdo : d ≠ o) (hd : s.heap.DictOf knd d kvs) (ho : s.heap.DictOf knd o more) (hsz : kvs.length + more.length ≤ sizeLine)
    (hQ : ∀ h', h'.DictOf knd d (merged kvs more) → Heap.SameBut d s.heap h' → Q () { s with heap := h' }) : wpAny (model prog w) A (mergeGo d o) Q E s := by
  obtain ⟨oo, eso, epo, hoo, hco, hdo', hko, hpo, hno⟩ := ho
  have hlen : more.length = eso.size := by rw [← hpo.length]; simp
  unfold mergeGo
  refine wpAny_bind (wpAny_dictEntries hoo hdo' (wpAny_bind (wpAny_dictEpoch hoo hdo' (wpAny_bind ?_))))
  refine wpAny_forIn_list _ (fun rest _ s' => ∃ h' i, s' = { s with heap := h' } ∧ rest = (List.range eso.size).drop i ∧ h'.DictOf knd d (merged kvs (more.take i)) ∧ Heap.SameBut d s.heap h' ∧ i ≤ eso.size) _ ?_ ?_ _ _
    ⟨s.heap, 0, rfl, rfl, by simpa [merged] using hd, Heap.SameBut.refl _ _, Nat.zero_le _⟩
  · rintro x rest b s' ⟨h', i, rfl, hr, hm, hs, hi⟩
    have hlt : i < eso.size := by
      rcases Nat.lt_or_ge i eso.size with q | q
      · exact q
      · rw [List.drop_eq_nil_of_le (by rw [List.length_range]; exact q)] at hr
        cases hr
    rw [List.drop_eq_getElem_cons (by rw [List.length_range]; exact hlt), List.getElem_range] at hr
    injection hr with hx hrest
    subst hx
    have hoo' : h'.get? o = some oo := (hs.2 o (Ne.symm hdo)).trans hoo
    refine wpAny_bind (wpAny_dictEntries hoo' hdo' ?_)
    rw [Array.getElem?_eq_getElem hlt]
    have hlt' : x < more.length := by omega
    have hkv : more[x]? = some more[x] := List.getElem?_eq_getElem hlt'
    obtain ⟨hkey, hval⟩ := hpo.get? (e := eso[x]) (by simp [hlt]) hkv
    obtain ⟨k', hkey', hhash⟩ := hko eso[x] (Array.getElem_mem hlt)
    obtain rfl : k' = more[x].1 := knd.inj _ _ _ hkey' hkey
    have e1 := merged_length_le kvs (more.take x)
    rw [List.length_take] at e1
    dsimp only
    rw [hhash, hval]
    refine wpAny_bind (wpAny_holding (put_walk hkey hm (by omega) fun h'' hm'' hs'' => ?_))
    have hoo'' : h''.get? o = some oo := (hs''.2 o (Ne.symm hdo)).trans hoo'
    refine wpAny_bind (wpAny_dictEpoch hoo'' hdo' ?_)
    rw [if_neg (by simp)]
    exact wpAny_pure ⟨h'', x + 1, rfl, hrest, by rw [merged_take_succ kvs more x _ hkv]; exact hm'', hs.trans hs'', hlt⟩
  · rintro b s' ⟨h', i, rfl, hr, hm, hs, hi⟩
    have hin : i = eso.size := by
      have := congrArg List.length hr
      rw [List.length_nil, List.length_drop, List.length_range] at this
      omega
    subst hin
    rw [← hlen, List.take_length] at hm
    exact wpAny_pure (hQ h' hm hs)
/-- all items of o into d -/
theorem merge_walk {d o : Addr} {kvs more : List (K × Value)} {Q : Unit → Shared → Prop} (hdo : d ≠ o) (hoS : (o == sysModules) = false) (hd : s.heap.DictOf knd d kvs) (ho : s.heap.DictOf knd o more) (hsz : kvs.length + more.length ≤ sizeLine)
    (hQ : ∀ h', h'.DictOf knd d (merged kvs more) → Heap.SameBut d s.heap h' → Q () { s with heap := h' }) : wpAny (model prog w) A (mergeMapping d (.ref o) false) Q E s := by
  obtain ⟨od, esd, epd, hod, hcd, hdd, hkd, hpd, hnd⟩ := id hd
  obtain ⟨oo, eso, epo, hoo, hco, hdo', hko, hpo, hno⟩ := id ho
  have hlen : more.length = eso.size := by rw [← hpo.length]; simp
  unfold mergeMapping
  dsimp only
  refine wpAny_bind (wpAny_isInstance ho.typeIs isSubtype_dict_dict ?_)
  rw [if_pos rfl]
  refine wpAny_bind (wpAny_specialOf ho.typeIs PySem.F.slot_dict_iter.lookup (wpAny_bind (wpAny_pure ?_)))
  rw [show ((some (Value.builtin "dict.__iter__")) == some (Value.builtin "dict.__iter__")) = true from by rw [beq_self_eq_true]]
  dsimp only
  rw [if_neg (by rw [hoS]; exact Bool.false_ne_true)]
  refine wpAny_bind (wpAny_dictEntries hod hdd ?_)
  have loop : wpAny (model prog w) A (mergeGo d o) Q E s := mergeGo_walk hdo hd ho hsz hQ
  split
  · refine wpAny_bind (wpAny_dictEntries hoo hdo' ?_)
    rw [← Array.forIn_toList]
    refine wpAny_bind ?_
    rw [forIn_yield_id _ (fun e he c => ?_)]
    · exact wpAny_pure loop
    obtain ⟨k, hkey, _⟩ := hko e (Array.mem_toList_iff.mp he)
    have := knd.byValue k _ hkey
    split
    · rename_i z
      rw [z] at this
      cases this
    · rfl
  · exact loop
end
end Ev
end

section
set_option Elab.async false
set_option linter.all false
set_option maxRecDepth 100000
set_option maxHeartbeats 1000000
/-! EvA: index of a list. -/
namespace Ev
open PySem PySem.Spec L2

section
variable {T : Tb} {W : WX} {X : Cx} {p : Par} {G G1 G' H H1 H' : Hp} {ρ ρ' ρ1 : Ev.Env} {σ σ' σ1 : L2.St} {v : V} {d d' : Ev.D} {e a : Expr} {es : List Expr} {A B : Ev.E} {pos : Pos}
theorem indexOf_py : ∀ {ys : List Ev.D} {d : Ev.D} {n : Nat}, indexOf d ys = some n → ∃ z, (pyAll ys)[n]? = some z ∧ PyData.eqv z (py d) = true ∧ ∀ (m : Nat) (z' : PyData), m < n → (pyAll ys)[m]? = some z' → PyData.eqv z' (py d) = false := by
  intro ys d
  induction ys with
  | nil => intro n h; cases h
  | cons y r ih =>
    intro n h
    unfold indexOf at h
    by_cases q : eqD y d = true
    · rw [if_pos q] at h
      cases h
      exact ⟨py y, rfl, by rw [← eqD_py]; exact q, fun m _ hm => absurd hm (Nat.not_lt_zero m)⟩
    · rw [if_neg q] at h
      obtain ⟨k, hk, rfl⟩ := Option.map_eq_some_iff.mp h
      obtain ⟨z, h1, h2, h3⟩ := ih hk
      refine ⟨z, h1, h2, fun m z' hm hz => ?_⟩
      cases m with
      | zero =>
        cases (show some (py y) = some z' from hz)
        rw [← eqD_py]
        simpa using q
      | succ m => exact h3 m z' (Nat.lt_of_succ_lt_succ hm) hz
theorem lst_ty (E : Sub G H) {d : Ev.D} (hl : isLst d = true) (h : Rdb T.fa T.K G H v d) : tyV T.K "list" v H := by
  rcases h with r | ⟨q, e, _, o⟩
  · cases r with
    | @lst a xs ds h1 h2 => exact .inl ⟨rfl, xs, .inl (E.rd _ _ h1)⟩
    | _ => cases hl
  · subst e
    rcases o with ⟨vs, ds, rfl, k, _⟩ | ⟨_, _, _, rfl, _⟩ | ⟨_, _, _, rfl, _⟩
    · exact .inl ⟨rfl, vs, SqL.of k⟩
    · cases hl
    · cases hl
/-- l.index(e) -/
theorem s_index (O : XOk T W X) {apos : Pos} (hbase : attributeBase a "index" X.env (eval a X.env) = eval a X.env) (hline : (apos.endLine == pos.line) = true) (ha : SE T W X p a A) (hb : SA T W X p [e] B) :
    SE T W X p (.Call (.Attribute a "index" apos) [e] [] pos) (.mt .index A B) := by
  have ns : noStar e = true := by have := hb.ns; rw [List.all_cons, Bool.and_eq_true] at this; exact this.1
  have h : PE X (.Call (.Attribute a "index" apos) [e] [] pos) (TEv T W (ev p (.mt .index A B))) := (pe_bm F.plainAttrs_list F.slot_list_index F.type_list_index (mt_indexD (by have := O.units; omega)) ha.pe hb.pa hbase (by rw [star1 ns]; rfl) hline (star1 ns _) rfl).imp fun σ H Q ⟨G, ρ, E, h⟩ => by
    unfold ev at h
    refine ⟨G, ρ, E, (Run.b1k (k := fun x ρ1 => if (rd x ρ1).any (mtAt .index) then (ev p B ρ1).bl fun l ρ2 => (match rd x ρ2, rdAll l ρ2 with
    | some dx, some ds => ofOpt (mtD .index dx ds) ρ2
    | _, _ => .no) else .no) h).mono fun x ρ1 v G1 H1 g rk nk ⟨s1, h1⟩ => ?_⟩
    by_cases q : (rd x ρ1).any (mtAt .index) = true
    · rw [if_pos q] at h1
      cases e1 : rd x ρ1 with
      | none => rw [e1] at q; cases q
      | some d0 =>
        rw [e1] at q
        have hl : isLst d0 = true := by cases d0 <;> first | rfl | cases q
        refine ⟨by rw [O.K]; exact lst_ty g.env.sub hl (rd_ok g.env rk e1), G1, ρ1, g.env, (h1.blk.from g).mono fun l ρ2 vs G2 H2 g2 ra na h2 => ?_⟩
        cases e2 : rd x ρ2 with
        | none => rw [e2] at h2; exact h2.elim
        | some dx =>
          cases e3 : rdAll l ρ2 with
          | none => rw [e2, e3] at h2; exact h2.elim
          | some ds =>
            rw [e2, e3] at h2
            simp only at h2
            have hx := rd_ok g2.env (rk.step g2.step g2.some) e2
            have hy := rdAll_ok g2.env ra e3
            cases e5 : mtD .index dx ds with
            | none => rw [e5] at h2; exact h2.elim
            | some r =>
              rw [e5] at h2
              obtain ⟨ys, d, n, rfl, rfl, p1, p2, e4, rfl⟩ := mtD_index e5
              cases hy with
              | cons k1 k2 =>
                cases k2
                have hk : X.K = T.K := O.K
                have dl := rdb_dp (n := 40) g2.env.sub hx p2
                have de := rdb_dp (n := 40) g2.env.sub k1 p1
                obtain ⟨z, z1, z2, z3⟩ := indexOf_py e4
                have sl := plain_shaped p2
                rw [py] at dl sl
                have hr : ∃ q, v = .ref q := by
                  cases dl with
                  | lst _ _ => exact ⟨_, rfl⟩
                obtain ⟨q', rfl⟩ := hr
                exact ⟨q', _, py d, pyAll ys, n, z, rfl, rfl, by rw [hk]; exact dl, by rw [hk]; exact de, sl, plain_shaped p1, z1, z2, z3, h2 _ _ _ (g.trans g2) (.int _) trivial⟩
    · rw [if_neg q] at h1; exact h1.elim
  exact ⟨h, pt_plain O h fun _ => rfl⟩
end
end Ev
end

section
set_option Elab.async false
set_option linter.all false
set_option maxRecDepth 100000
set_option maxHeartbeats 1000000
/-! EvK: enumerate over lists and tuples. -/
namespace Ev
open PySem PySem.Spec L2
open Sem (wp)

set_option maxHeartbeats 2000000 in
theorem meets_enum1 {v : Value} {o : Obj} {H : Heap → Prop} (B : Begins v o H) :
    Meets (Builtin.«enumerate.__new__» ⟨[.type "enumerate", v], []⟩) (fun _ R s => H s.heap ∧
      R (.ok (.ret (.ref (s.heap.push o).objs.size))) { s with heap := (s.heap.push o).push { cls := .type "enumerate", data := .fields #[.none, .bool false, .ref s.heap.objs.size, rawInt 0, .none, .none] } }) :=
  .of_wp fun prog w A R s h => by
    obtain ⟨hp, g, d, tk, os⟩ := s
    obtain ⟨h1, h⟩ := h
    have hsub := sub_enumerate
    have q1 : ∀ {A' : Around} {E : Value → Shared → Prop} {Q : Value → Shared → Prop}, Q (.ref hp.objs.size) ⟨hp.push o, g, d, tk, os⟩ → wpAny (model prog w) A' (pyIter v) Q E ⟨hp, g, d, tk, os⟩ :=
      fun q => B.iter prog w _ _ ⟨hp, g, d, tk, os⟩ _ h1 q
    wp_walk using q1
    refine wpAny_stack_any fun st => wpAny_pure ?_
    split
    · rename_i c _ _ _ _ _
      cases (c == Value.type "enumerate")
      · wp_walk using q1
        exact ⟨_, rfl, h⟩
      · wp_walk using q1
        exact ⟨_, rfl, h⟩
    · wp_walk using q1
      exact ⟨_, rfl, h⟩
section
variable {prog : Program} {w : World} {A : Around} {E : Value → Shared → Prop} {s : Shared}
theorem enum1_begins {v : Value} {o : Obj} {H : Heap → Prop} {Q : Value → Shared → Prop} (B : Begins v o H) (h1 : H s.heap)
    (h : ∀ h', IsEnum h' (s.heap.objs.size + 1) s.heap.objs.size 0 .none → h'.get? s.heap.objs.size = some o → (∀ b o, s.heap.get? b = some o → h'.get? b = some o) → Q (.ref (s.heap.objs.size + 1)) { s with heap := h' }) :
    wpAny (model prog w) A (call (.type "enumerate") [v]) Q E s := by
  refine callType_new F.called_enumerate (by decide) (F.typeCall_enumerate_1 _) (F.newCall_enumerate_1 _) (fun obj => F.args_object_init_2 obj _) F.entry_enumerate_new (meets_enum1 B) ⟨h1, ?_⟩
  have hz : (s.heap.push o).objs.size = s.heap.objs.size + 1 := Heap.size_push ..
  have he := Heap.get?_push_size (s.heap.push o) (o := { cls := .type "enumerate", data := .fields #[.none, .bool false, .ref s.heap.objs.size, rawInt 0, .none, .none] }) rfl
  rw [hz] at he
  show _ ∧ _
  rw [hz]
  exact ⟨⟨_, he, rfl⟩, h _ he (Heap.get?_push_of_some _ (Heap.get?_push_size _ B.free)) fun b o x => Heap.get?_push_of_some _ (Heap.get?_push_of_some _ x)⟩
end
section
variable {prog : Program} {w : World} {A : Around} {E : Value → Shared → Prop} {s : Shared}
/-- an enumerate over a tuple, at its end -/
theorem enum_endT {e it a : Addr} {i : Int} {k : Nat} {old : Value} {items : Array Value} {Q : Option Value → Shared → Prop} (hh : A.in1.handled = none) (he : IsEnum s.heap e it i old) (hit : s.heap.IsTupleIter it a k) (hT : s.heap.IsTuple a items) (hx : items[k]? = none)
    (hQ : ∀ h', Heap.ExtBut it s.heap h' → Q none { s with heap := h' }) : wpAny (model prog w) A (pyNext (.ref e)) Q E s := by
  have hE : s.TypeIs (.ref e) "enumerate" := ⟨_, he, rfl⟩
  unfold pyNext
  refine wpAny_bind (wpAny_attempt (wpAny_callSpecial?_slot (name := Str.ofString "__next__") hE F.slot_enumerate_next (wpAny_call_entry F.slot_enumerate_next hE F.entry_enumerate_next ?_ (F.args_enumerate_next_1 _))))
  show wpAny _ _ (field (.ref e) 2 >>= _) _ _ _
  refine wpAny_bind (wpAny_field he rfl (x := .ref it) rfl ?_)
  refine wpAny_bind (wpAny_nextOf_tuple_end (A := A.in1) hh hit hT hx fun h' x hb hs => ?_)
  obtain ⟨o, ho, hc⟩ := hs
  exact wpAny_bind (wpAny_isInstance (T := "StopIteration") (b := true) ⟨o, ho, hc⟩ isSubtype_stop (wpAny_pure (hQ _ hb)))
end
/-- the tuple at a, each item in a new pair -/
def Iet (K : PySem.W.Frag) (a : Addr) : It :=
  ⟨fun i H => ∃ (xs : List V) (x : V), SqT K H a xs ∧ xs[i]? = some x, fun i H v H' => ∃ t x, v = .ref t ∧ H t = none ∧ H' = upd H t (.tup [.int (i : Nat), x]) ∧ ∀ xs, SqT K H a xs → xs[i]? = some x, fun i H => ∃ xs : List V, SqT K H a xs ∧ xs.length ≤ i⟩
theorem turn_enumT {P : Program} {w : World} {K : PySem.W.Frag} {elts : List Expr} {kk : Nat} {tpos : Pos} (a e it : Addr) :
    Turn P w K (.Tuple elts kk tpos) (Iet K a) [e, it] e (fun i h => (∃ old, IsEnum h e it ((i : Nat) : Int) old) ∧ h.IsTupleIter it a i ∧ e ≠ it) where
  mem := by simp
  obj := fun i h st b hb => by
    obtain ⟨⟨old, he⟩, ⟨o, ho, hc, hd⟩, _⟩ := st
    rw [List.mem_cons, List.mem_singleton] at hb
    rcases hb with z | z
    · rw [z]; exact ⟨_, he, fun v q => nomatch q⟩
    · rw [z]; exact ⟨o, ho, fun v q => by rw [hd] at q; cases q⟩
  keep := fun i h h' st k => let ⟨⟨old, he⟩, hi, hne⟩ := st; ⟨⟨old, k e (by simp) _ he⟩, hi.at fun o q => k it (by simp) o q, hne⟩
  item := by
    intro X hP hw hK hc i pins s σ H E I hf st hg
    subst hP hw hK
    obtain ⟨⟨old, he⟩, hit, hne⟩ := st
    obtain ⟨xs, x, hq, hx⟩ := hg
    obtain ⟨its, rv, p, hz⟩ := I.tuple hq
    obtain ⟨u, hu, ru⟩ := rv.get hx
    have hT : s.heap.IsTuple a its.toArray := p
    have hai : a ≠ it := fun z => by
      obtain ⟨o1, g1, c1, _⟩ := hT
      obtain ⟨o2, g2, c2, _⟩ := hit
      rw [z, g2] at g1
      cases g1
      rw [c2] at c1
      exact absurd (Value.type.inj c1) (by decide)
    have hae : e ≠ a := fun z => by
      obtain ⟨o1, g1, c1, _⟩ := hT
      rw [← z, he] at g1
      cases g1
      exact absurd (Value.type.inj c1) (by decide)
    have hlt : i < its.toArray.size := by
      obtain ⟨h1, _⟩ := List.getElem?_eq_some_iff.mp hu
      simpa using h1
    have hel : e < s.heap.objs.size := Heap.lt_size he
    have hil : it < s.heap.objs.size := by obtain ⟨_, q, _⟩ := hit; exact Heap.lt_size q
    refine wpAny_pyNext_enum_itemD (Draws.tuple (A := X.A.in1) (I.ok.hd hc) it a hai its.toArray) he ⟨hit, hT⟩ hlt hne (by simp; exact ⟨hne, hae⟩) fun y h' tk hy ho hst hTn hsz hk => ?_
    obtain rfl : y = u := by rw [List.getElem?_toArray, hu] at hy; exact (Option.some.inj hy).symm
    refine ⟨_, rfl, wpAny_letOwnedTupleGo_enum (s := { s with heap := h', toks := tk + 1 }) ho fun h'' he' sb => ?_⟩
    have hT2 : h''.get? s.heap.objs.size = some { cls := .type "tuple", data := .seq #[.int i tk, y] } := (sb.2 _ (Nat.ne_of_gt hel)).trans hTn
    have new : ObjOk X.prog X.w (upd H s.heap.objs.size (.tup [.int (i : Nat), x])) h'' s.heap.objs.size (.tup [.int (i : Nat), x]) :=
      ⟨by show 2 ≤ sizeLine; decide, [.int i tk, y], .cons ⟨_, rfl⟩ (.cons ru .nil), ⟨_, hT2, rfl, _, rfl⟩⟩
    have I1 : Inv X pins σ (upd H s.heap.objs.size (.tup [.int (i : Nat), x])) { s with heap := h'', toks := tk + 1 } :=
      I.turnedNew (ch := [e, it]) (fun b ob hb q => (sb.2 b (fun z => hb (by simp [z]))).trans (hk b ob (fun z => hb (by simp [z])) (fun z => hb (by simp [z])) q)) hf (Nat.le_refl _) new
    refine ⟨.ref s.heap.objs.size, _, I1, rfl, ⟨_, x, rfl, I.hok.fresh (Nat.le_refl _), rfl, fun ys hy => by rw [I.tuple_inj hy hq]; exact hx⟩, ⟨⟨y, ?_⟩, hst.1.at fun o q => (sb.2 it (Ne.symm hne)).trans q, hne⟩, fun b hb => ?_⟩
    · have e1 : ((i + 1 : Nat) : Int) = (i : Int) + 1 := by omega
      rw [e1]; exact he'
    · have hb' : b < s.heap.objs.size := by
        have z := hb
        rw [List.mem_cons, List.mem_singleton] at z
        rcases z with z | z
        · rw [z]; exact hel
        · rw [z]; exact hil
      rw [upd_ne (Nat.ne_of_lt hb')]
      exact (hf b hb).1
  done := by
    intro X hP hw hK hc i pins s σ H E I hf st hg
    subst hP hw hK
    obtain ⟨⟨old, he⟩, hit, hne⟩ := st
    obtain ⟨xs, hq, hx⟩ := hg
    obtain ⟨its, rv, p, hz⟩ := I.tuple hq
    have hT : s.heap.IsTuple a its.toArray := p
    obtain ⟨f0, f1, f2, f3, f4, f5⟩ := hf it (by simp)
    have hl := rv.length
    exact enum_endT (I.ok.hd hc) he hit hT (by simp; omega) fun h' eb => ⟨rfl, I.turned (t' := s.toks) (fun b o hb q => eb b o hb q) f0 f1 f3 f4 f5⟩
  self := fun A i s Q E st h => let ⟨⟨_, he⟩, _⟩ := st; wpAny_pyIter_enum he h
end Ev
end

section
set_option Elab.async false
set_option linter.all false
set_option maxRecDepth 100000
set_option maxHeartbeats 1000000
/-! Ev1: walks over enumerate(e). -/
namespace Ev
open PySem PySem.Spec L2

section
variable {T : Tb} {W : WX} {X : Cx} {p : Par} {G G1 G' H H1 H' : Hp} {ρ ρ' ρ1 : Ev.Env} {σ σ' σ1 : L2.St} {v : V} {d d' : Ev.D} {e a : Expr} {es : List Expr} {A B : Ev.E} {pos : Pos}
theorem numbered_length : ∀ (l : List Ev.D) (n : Nat), (numbered n l).length = l.length
  | [], _ => rfl
  | _ :: r, n => by rw [numbered, List.length_cons, List.length_cons, numbered_length r]
theorem numbered_get : ∀ (l : List Ev.D) (n i : Nat) (d : Ev.D), l[i]? = some d → (numbered n l)[i]? = some (.tup [.int ((n + i : Nat) : Int), d])
  | [], _, _, _, h => by cases h
  | x :: r, n, 0, d, h => by
    cases h
    rfl
  | x :: r, n, i + 1, d, h => by
    have := numbered_get r (n + 1) i d h
    rw [numbered, List.getElem?_cons_succ, this]
    rw [show n + 1 + i = n + (i + 1) from by omega]
theorem pair_new (sb : Sub G H) {q : Addr} {i : Nat} {x : V} {d : Ev.D} (hq : H q = none) (r : Rp T.fa T.K G x d) : ∃ G', New T G H G' (upd H q (.tup [.int (i : Nat), x])) ∧ Rp T.fa T.K G' (.ref q) (.tup [.int (i : Nat), d]) := by
  have n : New T G H (upd G q (.tup [.int (i : Nat), x])) (upd H q (.tup [.int (i : Nat), x])) := New.tup sb hq
  exact ⟨_, n, .tup upd_same (.cons (.int _) (.cons (r.mono n.mono) .nil))⟩
theorem wk_enumL (a : Addr) (vs : List V) (l : List Ev.D) : Wk T (Ite T.K a) (numbered 0 l) (SList T a vs l) where
  keep := (wk_list a vs l).keep
  go := fun G H L i sb h hi => ⟨vs, vs[i]'(by rw [h.1.length]; rw [numbered_length] at hi; exact hi), h.sq sb, by simp⟩
  stop := fun G H L i sb h hi => ⟨vs, h.sq sb, by rw [h.1.length]; rw [numbered_length] at hi; exact hi⟩
  yld := fun G H L i x H' d sb h hd y => by
    obtain ⟨t, u, rfl, hn, rfl, y⟩ := y
    have e := y vs (h.sq sb)
    obtain ⟨d', e1, r⟩ := h.1.getV e
    rw [numbered_get l 0 i d' e1] at hd
    cases hd
    rw [Nat.zero_add]
    exact pair_new sb hn r
theorem wk_enumT (a : Addr) (vs : List V) (l : List Ev.D) : Wk T (Iet T.K a) (numbered 0 l) (STup T a vs l) where
  keep := (wk_tup a vs l).keep
  go := fun G H L i sb h hi => ⟨vs, vs[i]'(by rw [h.1.length]; rw [numbered_length] at hi; exact hi), STup.sq (T := T) (l := l) (L := L) sb h, by simp⟩
  stop := fun G H L i sb h hi => ⟨vs, STup.sq (T := T) (l := l) (L := L) sb h, by rw [h.1.length]; rw [numbered_length] at hi; exact hi⟩
  yld := fun G H L i x H' d sb h hd y => by
    obtain ⟨t, u, rfl, hn, rfl, y⟩ := y
    have e := y vs (STup.sq (T := T) (l := l) (L := L) sb h)
    obtain ⟨d', e1, r⟩ := h.1.getV e
    rw [numbered_get l 0 i d' e1] at hd
    cases hd
    rw [Nat.zero_add]
    exact pair_new sb hn r
def qEn (K : PySem.W.Frag) (R : It → Hp → Prop) : List V → Hp → Prop := fun vs H1 => match vs with
  | [v] => ∃ a, v = .ref a ∧ (((∃ xs, SqL K H1 a xs) ∧ R (Ite K a) H1) ∨ ((∃ xs, SqT K H1 a xs) ∧ R (Iet K a) H1))
  | _ => False
def iEn (K : PySem.W.Frag) (te : TE) : TI := fun σ H R => te σ H fun v H1 => qEn K R [v] H1
theorem pi_en {te : TE} {q tpos : Pos} {elts : List Expr} {kk : Nat} (hg : Gl X "enumerate") (hm : X.mg "enumerate" = none) (ha : PE X e te) (ns : noStar e = true) : PI X (.Tuple elts kk tpos) (.Call (.Name "enumerate" q) [e] [] pos) (iEn X.K te) := by
  refine ⟨fun pins s σ H R I h => ?_⟩
  refine PyProof.Rows.Call_ (ld_blt I hg hm PyProof.Rows.boot_enumerate (PyProof.Rows.callWith_type1 (thn ((pa_cons ha pa_nil (star1 ns _)).run pos pins s σ H (qEn X.K R) I h) fun us s1 ⟨vs, H1, I1, r1, q1⟩ => ?_) (star1 ns _) rfl))
  cases r1 with
  | nil => exact q1.elim
  | cons r rr =>
    cases rr with
    | cons _ _ => exact q1.elim
    | nil =>
      obtain ⟨a, rfl, q1⟩ := q1
      cases r
      have fp : ∀ b ∈ [s1.heap.objs.size + 1, s1.heap.objs.size], FpOk X pins H1 b := fun b hb => by
        have hle : s1.heap.objs.size ≤ b := by
          rw [List.mem_cons, List.mem_singleton] at hb
          rcases hb with z | z
          · rw [z]; exact Nat.le_succ _
          · rw [z]; exact Nat.le_refl _
        exact I1.fpOk hle (I1.hok.fresh hle)
      rcases q1 with ⟨⟨xs, hq⟩, q1⟩ | ⟨⟨xs, hq⟩, q1⟩
      · obtain ⟨its, rv, p', hz⟩ := I1.list hq
        refine PySem.call_enumerate_list p'.isList fun h' he hit hsz hk => wpAny_pyIter_enum he ?_
        exact ⟨s1.heap.objs.size + 1, [s1.heap.objs.size + 1, s1.heap.objs.size], _, _, H1, rfl, I1.kept (t' := s1.toks) hk, turn_enum a (s1.heap.objs.size + 1) s1.heap.objs.size, ⟨⟨.none, he⟩, hit, Nat.succ_ne_self _⟩, fp, q1⟩
      · obtain ⟨its, rv, p', hz⟩ := I1.tuple hq
        refine enum1_begins (begins_tuple a its.toArray) p' fun h' he hit hk => wpAny_pyIter_enum he ?_
        exact ⟨s1.heap.objs.size + 1, [s1.heap.objs.size + 1, s1.heap.objs.size], _, _, H1, rfl, I1.kept (t' := s1.toks) hk, turn_enumT a (s1.heap.objs.size + 1) s1.heap.objs.size, ⟨⟨.none, he⟩, ⟨_, hit, rfl, rfl⟩, Nat.succ_ne_self _⟩, fp, q1⟩
/-- for i, x in enumerate(e) -/
theorem si_en (O : XOk T W X) {q tpos : Pos} {elts : List Expr} {kk : Nat} (hg : Gl X "enumerate") (hm : X.mg "enumerate" = none) (ha : SE T W X p e A) (ns : noStar e = true) (hs : noSetE (.Call (.Name "enumerate" q) [e] [] pos) = true) : SI T W X p (.Tuple elts kk tpos) (.Call (.Name "enumerate" q) [e] [] pos) (.itE A) := by
  refine ⟨(pi_en hg hm ha.pe ns).imp fun σ H R ⟨G, ρ, E, h⟩ => ?_, noSet_fs hs _⟩
  unfold ev at h
  have h' : Run T W G H ρ σ (ev p A ρ) fun x ρ1 v G1 H1 => qEn X.K R [v] H1 := by
    cases er : ev p A ρ with
    | ok r ρ' =>
      rw [er] at h
      intro v G1 H1 g rk nk
      have key : ∀ x, RunI T W G H ρ σ (match walkOf x ρ' with | some (l, k) => .ok (.its (numbered 0 l) k) ρ' | none => .no) (fun _ _ _ _ H' J _ => R J H') → ResOk T.fa T.K G1 H1 ρ' σ v x → NewOk H v x → qEn X.K R [v] H1 := fun x hx rk nk => by
        cases ew : walkOf x ρ' with
        | none => rw [ew] at hx; exact hx.elim
        | some q =>
          obtain ⟨l, k⟩ := q
          rw [ew] at hx
          obtain ⟨a, vs, e1, h2⟩ := walk_ok g rk nk ew
          rw [O.K]
          rcases h2 with ⟨h2, h3⟩ | ⟨h2, h3⟩
          · exact ⟨a, e1, .inl ⟨⟨vs, h2⟩, hx _ _ G1 H1 g (wk_enumL a vs l) h3⟩⟩
          · exact ⟨a, e1, .inr ⟨⟨vs, h2⟩, hx _ _ G1 H1 g (wk_enumT a vs l) fun M _ => h3 M⟩⟩
      cases r with
      | fz d => exact key _ h rk nk
      | fr d => exact key _ h rk nk
      | sl j => exact key _ h rk nk
      | _ => exact h.elim
    | ex c d ρ' => rw [er] at h; exact h
    | no => rw [er] at h; exact h.elim
  exact ⟨G, ρ, E, h'⟩
end
end Ev
end

section
set_option Elab.async false
set_option linter.all false
set_option maxRecDepth 100000
set_option maxHeartbeats 1000000
/-! Ev2: displays of dicts. -/
namespace Ev
open PySem PySem.Spec L2

section
variable {X : Cx} {pins : List (Addr × Obj)} {s : Shared} {σ : L2.St} {H : Hp} {A : Around} {E : Value → Shared → Prop} {ta tb : TE} {a b : Expr} {pos : Pos}
/-- the items of the dict at b into the one at p -/
theorem d_merge {p c : Addr} {kvs more : List (Key × V)} {Q : Unit → Shared → Prop} (I : Inv X pins σ H s) (hp : H p = some (.dK kvs)) (hc : Rd H c (.dK more)) (hne : p ≠ c) (hz : kvs.length + more.length ≤ sizeLine)
    (h : ∀ s', Inv X pins σ (upd H p (.dK (mergeK kvs more))) s' → Q () s') : wpAny (model X.prog X.w) A (mergeMapping p (.ref c) false) Q E s := by
  obtain ⟨z, hd, vs, r, dd⟩ := dk_of I.hok hp
  obtain ⟨z2, hd2, ws, r2, dd2⟩ := dk_rd I.hok hc
  have l1 : kvs.length = vs.length := Paired.length r
  have l2 : more.length = ws.length := Paired.length r2
  refine merge_walk (knd := mixKind X.prog X.w) hne hd2 dd dd2 (by omega) fun h' dd' hs => h _ ?_
  have he : ∃ q, h'.get? p = some q := let ⟨q, _, _, hq, _⟩ := dd'; ⟨q, hq⟩
  have hl := length_mergeK more kvs
  exact d_write (t' := s.toks) I (by rw [hp]; exact trivial) hs he (dk_new (by omega) hd (r2.merge r) dd')
/-- {**a, **b} -/
def tUn (ta tb : TE) : TE := fun σ H Q => ∀ p, H p = none → ta σ (upd H p (.dK [])) fun x H1 => ∃ c kvs, x = .ref c ∧ p ≠ c ∧ H1 p = some (.dK []) ∧ Rd H1 c (.dK kvs) ∧ kvs.length ≤ sizeLine ∧
  tb σ (upd H1 p (.dK (mergeK [] kvs))) fun y H2 => ∃ c2 kvs2 kvs1, y = .ref c2 ∧ p ≠ c2 ∧ H2 p = some (.dK kvs1) ∧ Rd H2 c2 (.dK kvs2) ∧ kvs1.length + kvs2.length ≤ sizeLine ∧ Q (.ref p) (upd H2 p (.dK (mergeK kvs1 kvs2)))
theorem pe_un (ha : PE X a ta) (hb : PE X b tb) : PE X (.Dict [none, none] [a, b] pos) (tUn ta tb) := by
  refine ⟨fun pins s σ H Q I h => ?_⟩
  rw [PySem.arm_eval_Dict]
  refine wpAny_bind (wpAny_standAt ?_)
  have hn := I.hok.fresh (Nat.le_refl s.heap.objs.size)
  have I1 := I.laid (a := s.heap.objs.size) (o := .dK []) (h' := s.heap.push { cls := .type "dict", data := .dict #[] }) (t' := s.toks) (fun _ _ q => Heap.get?_push_of_some _ q) (Nat.le_refl _) (dk_empty s.heap I.big)
  show wpAny _ _ (dictDisplay [(none, (do let x ← eval a X.env; standAt pos; pure x)), (none, (do let x ← eval b X.env; standAt pos; pure x))]) _ _ _
  unfold dictDisplay
  dsimp only
  simp only [List.forIn_cons, List.forIn_nil, List.isEmpty_nil, if_true, pure_bind, bind_assoc]
  refine wpAny_bind (wpAny_alloc (wpAny_bind (wpAny_holding (wpAny_bind (thn (ha.run pins _ σ _ _ I1 (h _ hn)) fun v s2 ⟨x, H1, I2, rx, c, kvs, ex, hne, e1, e2, hz, q⟩ => wpAny_bind (wpAny_standAt (wpAny_pure ?_)))))))
  subst ex
  obtain rfl : v = Value.ref c := rx
  refine wpAny_bind (wpAny_onRaise (wpAny_tryCatch (wpAny_onRaise (wpAny_holding (d_merge I2 e1 e2 hne (by rw [List.length_nil]; omega) fun s3 I3 => ?_)))))
  refine wpAny_bind (wpAny_holding (wpAny_bind (thn (hb.run pins _ σ _ _ I3 q) fun v2 s4 ⟨y, H2, I4, ry, c2, kvs2, kvs1, ey, hne2, e3, e4, hz2, q2⟩ => wpAny_bind (wpAny_standAt (wpAny_pure ?_)))))
  subst ey
  obtain rfl : v2 = Value.ref c2 := ry
  refine wpAny_bind (wpAny_onRaise (wpAny_tryCatch (wpAny_onRaise (wpAny_holding (d_merge I4 e3 e4 hne2 hz2 fun s5 I5 => ?_)))))
  exact wpAny_pure ⟨.ref s.heap.objs.size, _, I5, rfl, q2⟩
end
end Ev
end

section
set_option Elab.async false
set_option linter.all false
set_option maxRecDepth 100000
set_option maxHeartbeats 1000000
/-! Ev3: displays of dicts, read. -/
namespace Ev
open PySem PySem.Spec L2

section
variable {fa : Fa} {K : PySem.W.Frag} {G H : Hp} {v : V} {d : Ev.D}
theorem merge_zip : ∀ {ks2 : List Key} {vs2 : List V} {ds2 : List Ev.D} {ks : List Key} {vs : List V} {ds : List Ev.D} {es3 : List (Ev.D × Ev.D)}, ks2.length = vs2.length → RpA fa K G vs2 ds2 → ks.length = vs.length → RpA fa K G vs ds →
    dputs false ((ks2.map kD).zip ds2) ((ks.map kD).zip ds) = some es3 → ∃ (ks' : List Key) (vs' : List V) (ds' : List Ev.D), ks'.length = vs'.length ∧ RpA fa K G vs' ds' ∧ mergeK (ks.zip vs) (ks2.zip vs2) = ks'.zip vs' ∧ es3 = (ks'.map kD).zip ds' := by
  intro ks2
  induction ks2 with
  | nil =>
    intro vs2 ds2 ks vs ds es3 l2 r2 l r h
    rw [List.map_nil, List.zip_nil_left] at h
    cases h
    exact ⟨ks, vs, ds, l, r, by rw [List.zip_nil_left]; rfl, rfl⟩
  | cons k ks2 ih =>
    intro vs2 ds2 ks vs ds es3 l2 r2 l r h
    cases r2 with
    | nil => cases l2
    | @cons v vs2 d ds2 r0 r2 =>
      rw [List.map_cons, List.zip_cons_cons] at h
      unfold dputs at h
      split at h
      · obtain ⟨ks1, vs1, ds1, l1, r1, e1, e2⟩ := put_zip kD keyEq_kD k r0 l r
        rw [e2] at h
        obtain ⟨ks', vs', ds', l', r', e3, e4⟩ := ih (by simpa using l2) r2 l1 r1 h
        refine ⟨ks', vs', ds', l', r', ?_, e4⟩
        rw [List.zip_cons_cons, ← e3, ← e1]
        rfl
      · cases h
theorem zip_len {κ α : Type} {ks : List κ} {vs : List V} {ds : List Ev.D} (f : κ → α) (l : ks.length = vs.length) (r : RpA fa K G vs ds) : ((ks.map f).zip ds).length = (ks.zip vs).length := by
  rw [List.length_zip, List.length_zip, List.length_map, l, r.length]
/-- a dict of ints and texts, read -/
theorem rdb_dK (sb : Sub G H) {es : List (Ev.D × Ev.D)} (h : Rdb fa K G H v (.dct false es)) : ∃ (c : Addr) (ks : List Key) (vs : List V) (ds : List Ev.D), v = .ref c ∧ Rd H c (.dK (ks.zip vs)) ∧ ks.length = vs.length ∧ RpA fa K G vs ds ∧ es = (ks.map kD).zip ds := by
  rcases h with h | ⟨q, rfl, n, o⟩
  · generalize e : Ev.D.dct false es = d at h
    cases h with
    | @dK a ks xs ds h1 h2 h3 => cases e; exact ⟨a, ks, xs, ds, rfl, sb.rd _ _ h1, h2, h3, rfl⟩
    | _ => cases e
  · rcases o with ⟨_, _, e, _⟩ | ⟨ks, vs, ds, e, h, l, r⟩ | ⟨_, _, _, e, _⟩
    · cases e
    · cases e; exact ⟨q, ks, vs, ds, rfl, .inl h, l, r, rfl⟩
    · cases e
theorem rp_at {fa : Fa} {a : Addr} {t : Bool} {es : List (Ev.D × Ev.D)} (h : Rp fa K G (.ref a) (.dct t es)) : G a ≠ none := by
  generalize e : Ev.D.dct t es = d at h
  cases h with
  | dK h1 _ _ => rcases h1 with h1 | ⟨w, h1⟩ <;> (rw [h1]; simp)
  | dT h1 _ _ => rcases h1 with h1 | ⟨w, h1⟩ <;> (rw [h1]; simp)
  | _ => cases e
end
section
variable {T : Tb} {W : WX} {X : Cx} {p : Par} {G G1 G' H H1 H' : Hp} {ρ ρ' ρ1 ρ2 : Ev.Env} {σ σ' σ1 : L2.St} {v : V} {d d' : Ev.D} {D : Addr} {Gb Hb : Hp} {ρb : Ev.Env} {σb : L2.St} {x : Rs} {A B : Ev.E}
/-- what is read isn't the dict that grows -/
theorem LO.apart (s : LO T D Gb Hb ρb σb d G H ρ σ) {H0 : Hp} (h0 : H0 D ≠ none) (rk : ResOk T.fa T.K G H ρ σ v x) (nk : NewOk H0 v x) {t : Bool} {es : List (Ev.D × Ev.D)} (e : rd x ρ = some (.dct t es)) : v ≠ .ref D := fun z => by
  subst z
  cases x with
  | fz d' => cases e; exact rp_at rk s.non
  | fr d' => exact h0 (nk D rfl)
  | sl i =>
    simp only [rd] at e
    cases q : slot ρ i with
    | none => rw [q] at e; cases e
    | some sl =>
      rw [q] at e
      obtain ⟨u, h1, h2⟩ := s.env.val i sl q
      rw [rk.1] at h1
      cases h1
      cases sl with
      | fz d' => cases e; exact rp_at h2 s.non
      | ow d' => exact s.own ⟨i, _, q, rfl, rk.1⟩
      | ln d' => exact s.own ⟨i, _, q, rfl, rk.1⟩
      | lk d' => cases e; exact rp_at (s.nolk i _ q rk.1) s.non
  | _ => cases e
theorem ev_dds {t : Bool} {l : Ev.E} : ev p (.dds t l) ρ = (match ev p l ρ with
    | .ok (.st l) ρ1 => (match dmake t l [] with
      | some r => .ok (.fr (.dct t r)) ρ1
      | none => .no)
    | _ => .no) := by
  conv => lhs; unfold ev
  try rfl
theorem ev_dun {r : Ev.E} : ev p (.dun A r) ρ = (ev p A ρ).b1 fun x ρ1 => (match rd x ρ1 with
    | some (.dct t es) => (match ev p r ρ1 with
        | .ok (.st l) ρ5 => .ok (.st (.dct t es :: l)) ρ5
        | _ => .no)
    | _ => .no) := by
  conv => lhs; unfold ev
  try rfl
theorem ev_dnil : ev p .dnil ρ = .ok (.st []) ρ := by unfold ev; rfl
/-- what the last part gives -/
theorem dun_ok {r : Ev.E} {l : List Ev.D} (h : ev p (.dun A r) ρ = .ok (.st l) ρ2) : ∃ x ρ1 t es l', ev p A ρ = .ok x ρ1 ∧ rd x ρ1 = some (.dct t es) ∧ ev p r ρ1 = .ok (.st l') ρ2 ∧ l = .dct t es :: l' := by
  rw [ev_dun] at h
  cases e1 : ev p A ρ with
  | ex c d ρ1 => rw [e1] at h; cases h
  | no => rw [e1] at h; cases h
  | ok x ρ1 =>
    rw [e1] at h
    have h' : (match rd x ρ1 with
      | some (.dct t es) => (match ev p r ρ1 with
          | .ok (.st l) ρ5 => R.ok (.st (.dct t es :: l)) ρ5
          | _ => .no)
      | _ => .no) = .ok (.st l) ρ2 := by
      cases x <;> first | exact h | cases h
    split at h'
    · rename_i t es e2
      split at h'
      · rename_i l' ρ5 e3
        cases h'
        exact ⟨x, ρ1, t, es, l', rfl, e2, e3, rfl⟩
      · cases h'
    · cases h'
theorem dun2 {t : Bool} (h : ev p (.dds t (.dun A (.dun B .dnil))) ρ ≠ .no) : ∃ x ρ1 es1 y ρ2 es2 m1 m2, ev p A ρ = .ok x ρ1 ∧ rd x ρ1 = some (.dct t es1) ∧ ev p B ρ1 = .ok y ρ2 ∧ rd y ρ2 = some (.dct t es2) ∧ es1.length ≤ LIM ∧ dputs t es1 [] = some m1 ∧ m1.length + es2.length ≤ LIM ∧ dputs t es2 m1 = some m2 ∧
    ev p (.dds t (.dun A (.dun B .dnil))) ρ = .ok (.fr (.dct t m2)) ρ2 := by
  rw [ev_dds] at h ⊢
  cases e0 : ev p (.dun A (.dun B .dnil)) ρ with
  | ex c d ρ1 => rw [e0] at h; exact absurd rfl h
  | no => rw [e0] at h; exact absurd rfl h
  | ok r ρ3 =>
    rw [e0] at h
    cases r with
    | st l =>
      obtain ⟨x, ρ1, t1, es1, l1, a1, a2, a3, rfl⟩ := dun_ok e0
      obtain ⟨y, ρ2, t2, es2, l2, b1, b2, b3, rfl⟩ := dun_ok a3
      rw [ev_dnil] at b3
      cases b3
      simp only at h ⊢
      cases e4 : dmake t [.dct t1 es1, .dct t2 es2] [] with
      | none => rw [e4] at h; exact absurd rfl h
      | some m =>
        unfold dmake at e4
        split at e4
        · rename_i c1
          rw [Bool.and_eq_true, decide_eq_true_eq] at c1
          obtain rfl : t = t1 := by simpa using c1.1
          split at e4
          · rename_i m1 f1
            unfold dmake at e4
            split at e4
            · rename_i c2
              rw [Bool.and_eq_true, decide_eq_true_eq] at c2
              obtain rfl : t = t2 := by simpa using c2.1
              split at e4
              · rename_i m2 f2
                unfold dmake at e4
                cases e4
                exact ⟨x, ρ1, es1, y, ρ3, es2, m1, _, a1, a2, b1, b2, by simpa using c1.2, f1, c2.2, f2, rfl⟩
              · cases e4
            · cases e4
          · cases e4
        · cases e4
    | _ => exact absurd rfl h
end
end Ev
end

section
set_option Elab.async false
set_option linter.all false
set_option maxRecDepth 100000
set_option maxHeartbeats 1000000
/-! Ev4: displays of dicts, as expressions. -/
namespace Ev
open PySem PySem.Spec L2

section
variable {T : Tb} {W : WX} {X : Cx} {p : Par} {G G1 G' H H1 H' : Hp} {ρ ρ' ρ1 ρ2 : Ev.Env} {σ σ' σ1 : L2.St} {v : V} {d d' : Ev.D} {D : Addr} {Gb Hb : Hp} {ρb : Ev.Env} {σb : L2.St} {x : Rs} {A B : Ev.E} {a b : Expr} {pos : Pos}
/-- the end of a display -/
theorem LO.fin {Q : VK} (hD : H D = none) (s : LO T D G H ρ σ d G1 H1 ρ1 σ) (so : ∀ i, (slot ρ i).isSome = true → (slot ρ1 i).isSome = true)
    (h : Run T W G H ρ σ (.ok (.fr d) ρ1) fun _ _ v _ H' => Q v H') : Q (.ref D) H1 :=
  h (.ref D) G1 H1 ⟨⟨s.env, s.step, s.fix⟩, so⟩ ⟨D, rfl, s.non, s.own, s.acc⟩ fun q e => by cases e; exact hD
/-- one more dict is merged in -/
theorem un_step {es m0 m1 : List (Ev.D × Ev.D)} {ks0 : List Key} {vs0 : List V} {ds0 : List Ev.D} (hD : Hb D = none) {H0 : Hp} {ρ0 : Ev.Env} {G0 : Hp} (s : LO T D Gb Hb ρb σ (.dct false m0) G0 H0 ρ0 σ)
    (hh : H0 D = some (.dK (ks0.zip vs0))) (l0 : ks0.length = vs0.length) (em : m0 = (ks0.map kD).zip ds0) (r0 : RpA T.fa T.K G0 vs0 ds0)
    (g : GoE T G0 H0 ρ0 σ G1 H1 ρ1) (rk : ResOk T.fa T.K G1 H1 ρ1 σ v x) (nk : NewOk H0 v x) (e : rd x ρ1 = some (.dct false es)) (hl : m0.length + es.length ≤ LIM) (f : dputs false es m0 = some m1) :
    ∃ (c : Addr) (kvs : List (Key × V)) (ks1 : List Key) (vs1 : List V) (ds1 : List Ev.D), v = .ref c ∧ D ≠ c ∧ H1 D = some (.dK (ks0.zip vs0)) ∧ Rd H1 c (.dK kvs) ∧ (ks0.zip vs0).length + kvs.length ≤ sizeLine ∧ mergeK (ks0.zip vs0) kvs = ks1.zip vs1 ∧ ks1.length = vs1.length ∧ m1 = (ks1.map kD).zip ds1 ∧ RpA T.fa T.K G1 vs1 ds1 ∧
      LO T D Gb Hb ρb σ (.dct false m1) G1 (upd H1 D (.dK (ks1.zip vs1))) ρ1 σ := by
  obtain ⟨fo, e1⟩ := s.foreign.go g.toGo
  have s1 := s.go g.toGo
  obtain ⟨c, ks, vs, ds, rfl, hc, lc, rc, ees⟩ := rdb_dK g.env.sub (rd_ok g.env rk e)
  have ap := s1.apart (by rw [hh]; simp) rk nk e
  have r0' : RpA T.fa T.K G1 vs0 ds0 := r0.mono g.step.mono
  subst em ees
  obtain ⟨ks1, vs1, ds1, l1, r1, em1, em2⟩ := merge_zip lc rc l0 r0' f
  refine ⟨c, ks.zip vs, ks1, vs1, ds1, rfl, fun z => ap (by rw [z]), e1.trans hh, hc, ?_, em1, l1, em2, r1, ?_⟩
  · rw [zip_len kD lc rc, zip_len kD l0 r0'] at hl
    rw [LIM_eq] at hl
    exact hl
  · refine s1.write hD (.inr (.inl ⟨ks1, vs1, ds1, by rw [em2], upd_same, l1, r1⟩))
theorem s_un (O : XOk T W X) (ha : SE T W X p a A) (hb : SE T W X p b B) : SE T W X p (.Dict [none, none] [a, b] pos) (.dds false (.dun A (.dun B .dnil))) := by
  have h : PE X (.Dict [none, none] [a, b] pos) (TEv T W (ev p (.dds false (.dun A (.dun B .dnil))))) := (pe_un ha.pe hb.pe).imp fun σ H Q ⟨G, ρ, E, h⟩ D hD => by
    have hno : ev p (.dds false (.dun A (.dun B .dnil))) ρ ≠ .no := fun z => by rw [z] at h; exact h
    obtain ⟨x, ρ1, es1, y, ρ2, es2, m1, m2, a1, a2, b1, b2, z1, f1, z2, f2, ee⟩ := dun2 hno
    rw [ee] at h
    have s0 : LO T D G H ρ σ (.dct false []) G (upd H D (.dK [])) ρ σ := LO.start E hD (own_mt false D)
    refine ⟨G, ρ, s0.env, ?_⟩
    rw [a1]
    intro v G1 H1 g1 rk1 nk1
    obtain ⟨c, kvs, ks1, vs1, ds1, e1, e2, e3, e4, e5, e6, e7, e8, e9, s1⟩ := un_step (ks0 := []) (vs0 := []) (ds0 := []) hD s0 upd_same rfl rfl .nil g1 rk1 nk1 a2 (by simpa using z1) f1
    refine ⟨c, kvs, e1, e2, e3, e4, by simpa using e5, ?_⟩
    rw [show mergeK [] kvs = ks1.zip vs1 from e6]
    refine ⟨G1, ρ1, s1.env, ?_⟩
    rw [b1]
    intro u G2 H2 g2 rk2 nk2
    obtain ⟨c2, kvs2, ks2, vs2, ds2, q1, q2, q3, q4, q5, q6, q7, q8, q9, s2⟩ := un_step hD s1 upd_same e7 e8 e9 g2 rk2 nk2 b2 z2 f2
    refine ⟨c2, kvs2, _, q1, q2, q3, q4, q5, ?_⟩
    rw [q6]
    exact s2.fin hD (fun i hi => g2.some i (g1.some i hi)) h
  exact ⟨h, pt_plain O h fun _ => rfl⟩
theorem s_dnil (O : XOk T W X) : SE T W X p (.Dict [] [] pos) (.dds false .dnil) := by
  have h : PE X (.Dict [] [] pos) (TEv T W (ev p (.dds false .dnil))) := pe_dnewK.imp fun σ H Q ⟨G, ρ, E, h⟩ D hD => by
    have s0 : LO T D G H ρ σ (.dct false []) G (upd H D (.dK [])) ρ σ := LO.start E hD (own_mt false D)
    have e : ev p (.dds false .dnil) ρ = .ok (.fr (.dct false [])) ρ := by rw [ev_dds, ev_dnil]; rfl
    rw [e] at h
    exact s0.fin hD (fun i hi => hi) h
  exact ⟨h, pt_plain O h fun _ => rfl⟩
theorem ev_dkv {ρ : Ev.Env} {k w r : Ev.E} : ev p (.dkv k w r) ρ = (ev p k ρ).b1 fun x ρ1 => (match tk x ρ1 with
    | some (kd, ρ2) => (ev p w ρ2).b1 fun y ρ3 => (match tk y ρ3 with
      | some (d, ρ4) => (match ev p r ρ4 with
        | .ok (.st l) ρ5 => .ok (.st (.tup [kd, d] :: l)) ρ5
        | _ => .no)
      | none => .no)
    | none => .no) := by
  conv => lhs; unfold ev
  try rfl
theorem b1_ok {r : R} {k : Rs → Ev.Env → R} {y : Rs} (h : r.b1 k = .ok y ρ2) : ∃ x ρ1, r = .ok x ρ1 ∧ k x ρ1 = .ok y ρ2 := by
  cases r with
  | ok x ρ1 => cases x <;> first | exact ⟨_, _, rfl, h⟩ | cases h
  | ex c d ρ1 => cases h
  | no => cases h
theorem dkv1 {k w : Ev.E} (h : ev p (.dds false (.dkv k w .dnil)) ρ ≠ .no) : ∃ (x : Rs) (ρ1 : Ev.Env) (kd : Ev.D) (ρ2 : Ev.Env) (y : Rs) (ρ3 : Ev.Env) (d : Ev.D) (ρ4 : Ev.Env), ev p k ρ = .ok x ρ1 ∧ tk x ρ1 = some (kd, ρ2) ∧ ev p w ρ2 = .ok y ρ3 ∧ tk y ρ3 = some (d, ρ4) ∧ keyFits false kd = true ∧
    ev p (.dds false (.dkv k w .dnil)) ρ = .ok (.fr (.dct false [(kd, d)])) ρ4 := by
  rw [ev_dds] at h ⊢
  cases e0 : ev p (.dkv k w .dnil) ρ with
  | ex c d ρ1 => rw [e0] at h; exact absurd rfl h
  | no => rw [e0] at h; exact absurd rfl h
  | ok r ρ5 =>
    rw [e0] at h
    rw [ev_dkv] at e0
    obtain ⟨x, ρ1, a1, e1⟩ := b1_ok e0
    cases a2 : tk x ρ1 with
    | none => rw [a2] at e1; cases e1
    | some q =>
      obtain ⟨kd, ρ2⟩ := q
      rw [a2] at e1
      obtain ⟨y, ρ3, a3, e2⟩ := b1_ok e1
      cases a4 : tk y ρ3 with
      | none => rw [a4] at e2; cases e2
      | some q =>
        obtain ⟨d, ρ4⟩ := q
        rw [a4] at e2
        simp only [ev_dnil] at e2
        cases e2
        by_cases c : keyFits false kd = true
        · refine ⟨x, ρ1, kd, ρ2, y, ρ3, d, _, a1, a2, a3, a4, c, ?_⟩
          simp only [dmake, c, List.length_nil]
          rfl
        · exfalso
          simp only [dmake, c, Bool.false_and] at h
          exact h rfl
theorem s_dkv (O : XOk T W X) {k w : Ev.E} (ha : SE T W X p a k) (hb : SE T W X p b w) : SE T W X p (.Dict [some a] [b] pos) (.dds false (.dkv k w .dnil)) := by
  have h : PE X (.Dict [some a] [b] pos) (TEv T W (ev p (.dds false (.dkv k w .dnil)))) := (pe_disp (pps_cons ha.pe hb.pe pps_nil) (by rfl) (by rfl) (fun z => by cases z) (show 1 ≤ 15 from by omega)).imp fun σ H Q ⟨G, ρ, E, h⟩ D hD => by
    have hno : ev p (.dds false (.dkv k w .dnil)) ρ ≠ .no := fun z => by rw [z] at h; exact h
    obtain ⟨x, ρ1, kd, ρ2, y, ρ3, d, ρ4, a1, a2, a3, a4, c, ee⟩ := dkv1 hno
    rw [ee] at h
    have s0 : LO T D G H ρ σ (.dct false []) G (upd H D (.dK [])) ρ σ := LO.start E hD (own_mt false D)
    refine keep_read s0.env a1 a2 fun G1 H1 v g1 so1 r1 => keep_read g1.env a3 a4 fun G2 H2 u g2 so2 r2 => ?_
    obtain ⟨fo1, e1⟩ := s0.foreign.go g1
    have s1 := s0.go g1
    obtain ⟨fo2, e2⟩ := s1.foreign.go g2
    have s2 := s1.go g2
    obtain ⟨key, rfl⟩ := isKey0_kD (d := kd) c
    have rk : v = kV key := by
      cases key with
      | inl i => cases r1; rfl
      | inr x => cases r1; rfl
    refine ⟨e2.trans (e1.trans upd_same), [(key, u)], by rw [rk]; rfl, (show 1 ≤ 15 from by omega), ?_⟩
    refine LO.fin (G1 := G2) (d := .dct false [(kD key, d)]) hD (s2.write hD (.inr (.inl ⟨[key], [u], [d], rfl, upd_same, rfl, .cons r2 .nil⟩))) (fun i hi => so2 i (so1 i hi)) h
  exact ⟨h, pt_plain O h fun _ => rfl⟩
end
end Ev
end

section
set_option Elab.async false
set_option linter.all false
set_option maxRecDepth 100000
set_option maxHeartbeats 1000000
/-! Ev5: a check, by computation, that expressions of a text are as told in the engine's language. -/
namespace Ev
open PySem PySem.Spec L2

theorem ff {P : Prop} (h : false = true) : P := by cases h
/-! ### tables -/
structure Tn where
  fns : List (Nat × Str)
  kws : List (Nat × List Str × List Nat)
  globs : List Str
  nones : List Str
structure TnOk (T : Tb) (t : Tn) (n : Nat) (p : Par) : Prop where
  rep : p.rep = T.pr.rep
  no : ∀ x, t.nones.contains x = true → T.mg x = none
  gl : ∀ (i : Nat) (x : Str), t.globs[i]? = some x → ∃ v u d, T.mg x = some u ∧ RelV v u ∧ p.glob[i]? = some d ∧ Rp T.fa T.K T.G0 v d
  fn : ∀ (i : Nat) (x : Str), (i, x) ∈ t.fns → ∃ f fd ps, FnG T.prog T.w T.K T.mg T.base n f fd ps (spEv T p.call i) ∧ T.mg x = some (.ref f) ∧ PySem.W.keepIn T.K (.ref f) = true ∧ Binds T.K fd ps [] ∧
    ∀ (ks : List Str) (perm : List Nat), (i, ks, perm) ∈ t.kws → perm.Nodup ∧ ∀ (s : Shared) (ws ws' : List Value), T.K.In s.heap → ws'.length = ps.length → permD ws perm = some ws' → ws.length = ks.length → BindsTo s fd ⟨[], ks.zip ws⟩ (ps.zip ws')
/-- a block's names -/
structure Sc where
  sc : Scope
  fn : Str → Bool
structure InX (N : List Str) (s : Sc) (X : Cx) : Prop where
  nd : N.Nodup
  N : X.N = N
  sc : X.env.scope = s.sc
  fn : ∀ x, s.fn x = true → X.fn x = true

def visB (s : Sc) (x : Str) : Bool := match s.sc.names.lookup x with
  | some .local => true
  | some .cell => true
  | some .free => true
  | _ => false
def glB (s : Sc) (x : Str) : Bool := match s.sc.names.lookup x with
  | some .globalImplicit => true
  | _ => false
def locB (s : Sc) (x : Str) : Bool := match s.sc.names.lookup x with
  | some .local => true
  | _ => false
/-- may be stored to -/
def stoB (s : Sc) (x : Str) : Bool := match s.sc.names.lookup x with
  | some .local => true
  | some .cell => s.fn x
  | _ => false
def notDbg (x : Str) : Bool := !(x == ("__debug__" : Str)) && !(x == ("__classdict__" : Str))
def varB (N : List Str) (s : Sc) (i : Nat) (x : Str) : Bool := decide (N[i]? = some x) && (visB s x && notDbg x)
section
variable {N : List Str} {s : Sc} {X : Cx} {x : Str}
theorem notDbg_ok (h : notDbg x = true) : (x == ("__debug__" : Str)) = false ∧ (x == ("__classdict__" : Str)) = false := by
  unfold notDbg at h
  rw [Bool.and_eq_true, Bool.not_eq_true', Bool.not_eq_true'] at h
  exact h
theorem InX.vis (R : InX N s X) (h : visB s x = true) : Vis X.env.scope x := by
  unfold visB at h
  unfold Vis
  rw [R.sc]
  split at h
  · exact .inl (by assumption)
  · exact .inr (.inl (by assumption))
  · exact .inr (.inr (by assumption))
  · cases h
theorem InX.gl (R : InX N s X) (h : glB s x = true) : Gl X x := by
  unfold glB at h
  unfold Gl Env.kindOf
  rw [R.sc]
  split at h
  · assumption
  · cases h
theorem InX.loc (R : InX N s X) (h : locB s x = true) : X.env.scope.names.lookup x = some .local := by
  unfold locB at h
  rw [R.sc]
  split at h
  · assumption
  · cases h
theorem InX.sto (R : InX N s X) (h : stoB s x = true) : L2.Loc X.env.scope x ∧ (X.fn x = true ∨ X.env.scope.names.lookup x = some .local) := by
  unfold stoB at h
  unfold L2.Loc
  rw [R.sc]
  split at h
  · exact ⟨.inl (by assumption), .inr (by assumption)⟩
  · exact ⟨.inr (by assumption), .inl (R.fn _ h)⟩
  · cases h
theorem InX.var {i : Nat} (R : InX N s X) (h : varB N s i x = true) : X.N[i]? = some x ∧ Vis X.env.scope x ∧ (x == ("__debug__" : Str)) = false ∧ (x == ("__classdict__" : Str)) = false := by
  unfold varB at h
  rw [Bool.and_eq_true, Bool.and_eq_true, decide_eq_true_eq] at h
  exact ⟨by rw [R.N]; exact h.1, R.vis h.2.1, notDbg_ok h.2.2⟩
end

/-! ### what is checked of a part -/
structure CK where
  e : Sc → Expr → Bool
  a : Sc → List Expr → Bool
  o : Sc → Option Expr → Bool
  k : Sc → List CmpOp → List Expr → Bool
  i : Sc → Expr → Expr → Bool
  f : Sc → List Expr → Bool
  w : Sc → List Keyword → List Str → Bool
  d : Sc → List (Option Expr) → List Expr → Bool
/-- the parts of a display of a dict -/
inductive DisOk (T : Tb) (W : WX) (X : Cx) (p : Par) : Ev.E → List (Option Expr) → List Expr → Prop
  | nil : DisOk T W X p .dnil [] []
  | un {e : Expr} {A r : Ev.E} {ks : List (Option Expr)} {vs : List Expr} : SE T W X p e A → DisOk T W X p r ks vs → DisOk T W X p (.dun A r) (none :: ks) (e :: vs)
  | kv {k e : Expr} {A B r : Ev.E} {ks : List (Option Expr)} {vs : List Expr} : SE T W X p k A → SE T W X p e B → DisOk T W X p r ks vs → DisOk T W X p (.dkv A B r) (some k :: ks) (e :: vs)
inductive LinkOk (T : Tb) (W : WX) (X : Cx) (p : Par) : Ev.E → List CmpOp → List Expr → Prop
  | nil : LinkOk T W X p .nil [] []
  | cons {o : Cop} {e : Expr} {B r : Ev.E} {ops : List CmpOp} {es : List Expr} : SE T W X p e B → behindInMarks (copOf o) e = false → LinkOk T W X p r ops es → LinkOk T W X p (.link o B r) (copOf o :: ops) (e :: es)
structure Sound (T : Tb) (n : Nat) (N : List Str) (p : Par) (A : Ev.E) (c : CK) : Prop where
  e : ∀ {X : Cx} {W : WX} {s : Sc} {x : Expr}, XOk T W X → InX N s X → Room n X.A → c.e s x = true → SE T W X p x A
  a : ∀ {X : Cx} {W : WX} {s : Sc} {x : List Expr}, XOk T W X → InX N s X → Room n X.A → c.a s x = true → SA T W X p x A
  o : ∀ {X : Cx} {W : WX} {s : Sc} {x : Option Expr}, XOk T W X → InX N s X → Room n X.A → c.o s x = true → SO T W X p x A
  k : ∀ {X : Cx} {W : WX} {s : Sc} {l : List CmpOp} {x : List Expr}, XOk T W X → InX N s X → Room n X.A → c.k s l x = true → LinkOk T W X p A l x
  i : ∀ {X : Cx} {W : WX} {s : Sc} {g x : Expr}, XOk T W X → InX N s X → Room n X.A → c.i s g x = true → SI T W X p g x A
  f : ∀ {X : Cx} {W : WX} {s : Sc} {x : List Expr}, XOk T W X → InX N s X → Room n X.A → c.f s x = true → SF T W X p x A
  w : ∀ {X : Cx} {W : WX} {s : Sc} {x : List Keyword} {ks : List Str}, XOk T W X → InX N s X → Room n X.A → c.w s x ks = true → SK T W X p x ks A
  d : ∀ {X : Cx} {W : WX} {s : Sc} {x : List (Option Expr)} {y : List Expr}, XOk T W X → InX N s X → Room n X.A → c.d s x y = true → DisOk T W X p A x y
def ckNo : CK := ⟨fun _ _ => false, fun _ _ => false, fun _ _ => false, fun _ _ _ => false, fun _ _ _ => false, fun _ _ => false, fun _ _ _ => false, fun _ _ _ => false⟩
/-- an expression -/
def ckEx (f : Sc → Expr → Bool) : CK := ⟨f, fun _ _ => false, fun s o => match o with | some e => f s e | none => false, fun _ _ _ => false, fun _ _ _ => false, fun s l => match l with | [e] => f s e | _ => false, fun _ _ _ => false, fun _ _ _ => false⟩
def ckIt (f : Sc → Expr → Expr → Bool) : CK := ⟨fun _ _ => false, fun _ _ => false, fun _ _ => false, fun _ _ _ => false, f, fun _ _ => false, fun _ _ _ => false, fun _ _ _ => false⟩
section
variable {T : Tb} {t : Tn} {n : Nat} {N : List Str} {p : Par} {A B C D' : Ev.E} {a b c d : CK}
theorem sNo : Sound T n N p A ckNo := ⟨fun _ _ _ h => ff h, fun _ _ _ h => ff h, fun _ _ _ h => ff h, fun _ _ _ h => ff h, fun _ _ _ h => ff h, fun _ _ _ h => ff h, fun _ _ _ h => ff h, fun _ _ _ h => ff h⟩
theorem sEx {f : Sc → Expr → Bool} (hf : ∀ {X : Cx} {W : WX} {s : Sc} {x : Expr}, XOk T W X → InX N s X → Room n X.A → f s x = true → SE T W X p x A) : Sound T n N p A (ckEx f) :=
  ⟨hf, fun _ _ _ h => ff h, fun {X W s x} O R r h => by
    cases x with
    | none => cases h
    | some e => exact so_some (hf O R r h), fun _ _ _ h => ff h, fun _ _ _ h => ff h, fun {X W s x} O R r h => by
    match x, h with
    | [e], h => exact sf_one (hf O R r h), fun _ _ _ h => ff h, fun _ _ _ h => ff h⟩
theorem sIt {f : Sc → Expr → Expr → Bool} (hf : ∀ {X : Cx} {W : WX} {s : Sc} {g x : Expr}, XOk T W X → InX N s X → Room n X.A → f s g x = true → SI T W X p g x A) : Sound T n N p A (ckIt f) :=
  ⟨fun _ _ _ h => ff h, fun _ _ _ h => ff h, fun _ _ _ h => ff h, fun _ _ _ h => ff h, hf, fun _ _ _ h => ff h, fun _ _ _ h => ff h, fun _ _ _ h => ff h⟩

/-! ### lists -/
def ckNil : CK := ⟨fun _ _ => false, fun _ l => l.isEmpty, fun _ o => o.isNone, fun _ l m => l.isEmpty && m.isEmpty, fun _ _ _ => false, fun _ _ => false, fun _ l m => l.isEmpty && m.isEmpty, fun _ _ _ => false⟩
theorem sNil : Sound T n N p .nil ckNil :=
  ⟨fun _ _ _ h => ff h, fun {X W s x} O R r h => by
    cases x with
    | nil => exact sa_nil
    | cons _ _ => exact ff h
    , fun {X W s x} O R r h => by
    cases x with
    | none => exact so_none
    | some _ => exact ff h
    , fun {X W s l x} O R r h => by
    cases l with
    | nil => cases x with
      | nil => exact .nil
      | cons _ _ => cases h
    | cons _ _ => exact ff h
    , fun _ _ _ h => ff h, fun _ _ _ h => ff h, fun {X W s x ks} O R r h => by
    cases x with
    | nil => cases ks with
      | nil => exact sk_nil
      | cons _ _ => cases h
    | cons _ _ => exact ff h
    , fun _ _ _ h => ff h⟩
def ckCons (a b : CK) : CK := ⟨fun _ _ => false, fun s l => match l with | e :: es => a.e s e && (noStar e && b.a s es) | [] => false, fun _ _ => false, fun _ _ _ => false, fun _ _ _ => false, fun _ _ => false,
  fun s l ks => match l, ks with | ⟨some x, e, _⟩ :: es, k :: ks => decide (x = k) && (a.e s e && b.w s es ks) | _, _ => false, fun _ _ _ => false⟩
theorem sCons (ha : Sound T n N p A a) (hb : Sound T n N p B b) : Sound T n N p (.cons A B) (ckCons a b) :=
  ⟨fun _ _ _ h => ff h, fun {X W s x} O R r h => by
    cases x with
    | nil => cases h
    | cons e es =>
      simp only [ckCons, Bool.and_eq_true] at h
      exact sa_cons (ha.e O R r h.1) h.2.1 (hb.a O R r h.2.2), fun _ _ _ h => ff h, fun _ _ _ h => ff h, fun _ _ _ h => ff h, fun _ _ _ h => ff h, fun {X W s x ks} O R r h => by
    unfold ckCons at h
    simp only at h
    split at h
    · rename_i y e q es k ks
      simp only [Bool.and_eq_true, decide_eq_true_eq] at h
      obtain ⟨rfl, h1, h2⟩ := h
      exact sk_cons (ha.e O R r h1) (hb.w O R r h2)
    · exact ff h
    , fun _ _ _ h => ff h⟩
def ckLink (o : Cop) (a b : CK) : CK := { ckNo with k := fun s l m => match l, m with | op :: ops, e :: es => decide (op = copOf o) && (!behindInMarks op e && (a.e s e && b.k s ops es)) | _, _ => false }
theorem sLink {o : Cop} (ha : Sound T n N p A a) (hb : Sound T n N p B b) : Sound T n N p (.link o A B) (ckLink o a b) :=
  ⟨fun _ _ _ h => ff h, fun _ _ _ h => ff h, fun _ _ _ h => ff h, fun {X W s l x} O R r h => by
    simp only [ckLink] at h
    split at h
    · rename_i op ops e es
      simp only [Bool.and_eq_true, decide_eq_true_eq, Bool.not_eq_true'] at h
      obtain ⟨rfl, h0, h1, h2⟩ := h
      exact .cons (ha.e O R r h1) h0 (hb.k O R r h2)
    · exact ff h
    , fun _ _ _ h => ff h, fun _ _ _ h => ff h, fun _ _ _ h => ff h, fun _ _ _ h => ff h⟩

/-! ### constants, names -/
def ckVar (N : List Str) (i : Nat) : CK := ckEx fun s e => match e with | .Name x _ => varB N s i x | _ => false
theorem sVar {i : Nat} : Sound T n N p (.var i) (ckVar N i) := sEx fun {X W s x} O R r h => by
  split at h
  · obtain ⟨h1, h2, h3, h4⟩ := R.var h
    exact s_var O h1 h2 h3 h4
  · cases h
theorem sBor {i : Nat} : Sound T n N p (.bor i) (ckVar N i) := sEx fun {X W s x} O R r h => by
  split at h
  · obtain ⟨h1, h2, h3, h4⟩ := R.var h
    exact s_bor O h1 h2 h3 h4
  · cases h
theorem sLend {i : Nat} : Sound T n N p (.lend i) (ckVar N i) := sEx fun {X W s x} O R r h => by
  split at h
  · obtain ⟨h1, h2, h3, h4⟩ := R.var h
    exact s_lend O h1 h2 h3 h4
  · cases h
def ckGive (a : CK) : CK := ckEx fun s e => match e with | .Call f l k q => a.e s (.Call f l k q) | _ => false
theorem sGive (ha : Sound T n N p A a) : Sound T n N p (.give A) (ckGive a) := sEx fun {X W s x} O R r h => by
  split at h
  · exact s_give O (ha.e O R r h).pe fun _ => rfl
  · cases h
def ckInt (i : Int) : CK := ckEx fun s e => match e with | .Constant (.int j) _ _ => decide (i = j) | _ => false
theorem sInt {i : Int} : Sound T n N p (.int i) (ckInt i) := sEx fun {X W s x} O R r h => by
  split at h
  · cases of_decide_eq_true h
    exact s_int O
  · cases h
def ckBl0 (b : Bool) (s : Sc) (e : Expr) : Bool := match e with | .Constant (.bool j) _ _ => b == j | _ => false
theorem sBl0 {X : Cx} {W : WX} {i : Bool} {s : Sc} {x : Expr} (O : XOk T W X) (h : ckBl0 i s x = true) : SE T W X p x (.bl i) := by
  unfold ckBl0 at h; split at h
  · cases eq_of_beq h
    exact s_bl O
  · cases h
def ckBl (b : Bool) : CK := { ckEx (ckBl0 b) with f := fun s l => match l with | [] => b | [e] => ckBl0 b s e | _ => false }
theorem sBl {i : Bool} : Sound T n N p (.bl i) (ckBl i) :=
  ⟨fun {X W s x} O R r h => sBl0 (s := s) O h, fun _ _ _ h => ff h, fun {X W s x} O R r h => by
    cases x with
    | none => cases h
    | some e => exact so_some (sBl0 (s := s) O h), fun _ _ _ h => ff h, fun _ _ _ h => ff h, fun {X W s x} O R r h => by
    match x, h with
    | [], h =>
      have e : i = true := h
      subst e
      exact sf_nil
    | [e], h => exact sf_one (sBl0 (s := s) O h), fun _ _ _ h => ff h, fun _ _ _ h => ff h⟩
def ckNon : CK := ckEx fun s e => match e with | .Constant .none _ _ => true | _ => false
theorem sNon : Sound T n N p .non ckNon := sEx fun {X W s x} O R r h => by
  split at h
  · exact s_non O
  · cases h
def ckStr (y : Str) : CK := ckEx fun s e => match e with | .Constant (.str z) _ _ => decide (y = z) | _ => false
theorem sStr {y : Str} : Sound T n N p (.str y) (ckStr y) := sEx fun {X W s x} O R r h => by
  split at h
  · cases of_decide_eq_true h
    exact s_str O
  · cases h
def ckGlob (t : Tn) (i : Nat) : CK := ckEx fun s e => match e with | .Name x _ => decide (t.globs[i]? = some x) && (glB s x && notDbg x) | _ => false
theorem sGlob {i : Nat} (K : TnOk T t n p) : Sound T n N p (.glob i) (ckGlob t i) := sEx fun {X W s x} O R r h => by
  split at h
  · simp only [Bool.and_eq_true, decide_eq_true_eq] at h
    obtain ⟨v, u, d, h1, h2, h3, h4⟩ := K.gl i _ h.1
    exact s_glob O (R.gl h.2.1) (by rw [O.mg]; exact h1) h2 (notDbg_ok h.2.2).1 h3 h4
  · cases h

/-! ### operators -/
def ckBin (o : Bop) (a b : CK) : CK := ckEx fun s e => match e with | .BinOp x op y _ => decide (op = bopOf o) && (a.e s x && b.e s y) | _ => false
theorem sBin {o : Bop} (ha : Sound T n N p A a) (hb : Sound T n N p B b) : Sound T n N p (.bin o A B) (ckBin o a b) := sEx fun {X W s x} O R r h => by
  split at h
  · simp only [Bool.and_eq_true, decide_eq_true_eq] at h
    obtain ⟨rfl, h1, h2⟩ := h
    exact s_bin O (ha.e O R r h1) (hb.e O R r h2)
  · cases h
def ckNeg (a : CK) : CK := ckEx fun s e => match e with | .UnaryOp .USub x _ => a.e s x | _ => false
theorem sNeg (ha : Sound T n N p A a) : Sound T n N p (.neg A) (ckNeg a) := sEx fun {X W s x} O R r h => by
  split at h
  · exact s_neg O (ha.e O R r h)
  · cases h
def ckNot (a : CK) : CK := ckEx fun s e => match e with | .UnaryOp .Not x _ => a.e s x | _ => false
theorem sNot (ha : Sound T n N p A a) : Sound T n N p (.not A) (ckNot a) := sEx fun {X W s x} O R r h => by
  split at h
  · exact s_not O (ha.e O R r h)
  · cases h
def okLink : Ev.E → Bool
  | .link _ _ .nil => true
  | .link _ _ (.link _ _ .nil) => true
  | .link _ _ (.link _ _ (.link _ _ .nil)) => true
  | _ => false
def ckCmp (a b : CK) : CK := ckEx fun s e => match e with | .Compare x ops es _ => a.e s x && b.k s ops es | _ => false
theorem sCmp (ha : Sound T n N p A a) (hb : Sound T n N p B b) (ok : okLink B = true) : Sound T n N p (.cmp A B) (ckCmp a b) := sEx fun {X W s x} O R r h => by
  split at h
  · simp only [Bool.and_eq_true] at h
    have h1 := ha.e O R r h.1
    have h2 := hb.k O R r h.2
    cases h2 with
    | nil => exact ff ok
    | cons e1 m1 l1 =>
      cases l1 with
      | nil => exact s_cmp1 O h1 e1 m1
      | cons e2 m2 l2 =>
        cases l2 with
        | nil => exact s_cmp2 O h1 e1 e2 m2
        | cons e3 m3 l3 =>
          cases l3 with
          | nil => exact s_cmp3 O h1 e1 e2 e3 m3
          | cons _ _ _ => exact ff ok
  · cases h
def ckAnd (a b : CK) : CK := ckEx fun s e => match e with | .BoolOp .And (x :: y :: z) q => a.e s x && (match z with | [] => b.e s y | _ => b.e s (.BoolOp .And (y :: z) q)) | _ => false
theorem sAnd (ha : Sound T n N p A a) (hb : Sound T n N p B b) : Sound T n N p (.and A B) (ckAnd a b) := sEx fun {X W s x} O R r h => by
  split at h
  · rename_i x y z q
    simp only [Bool.and_eq_true] at h
    cases z with
    | nil => exact s_and O (ha.e O R r h.1) (s_one (hb.e O R r h.2))
    | cons w z => exact s_and O (ha.e O R r h.1) (hb.e O R r h.2)
  · cases h
def ckOr (a b : CK) : CK := ckEx fun s e => match e with | .BoolOp .Or (x :: y :: z) q => a.e s x && (match z with | [] => b.e s y | _ => b.e s (.BoolOp .Or (y :: z) q)) | _ => false
theorem sOr (ha : Sound T n N p A a) (hb : Sound T n N p B b) : Sound T n N p (.or A B) (ckOr a b) := sEx fun {X W s x} O R r h => by
  split at h
  · rename_i x y z q
    simp only [Bool.and_eq_true] at h
    cases z with
    | nil => exact s_or O (ha.e O R r h.1) (s_one (hb.e O R r h.2))
    | cons w z => exact s_or O (ha.e O R r h.1) (hb.e O R r h.2)
  · cases h
def ckIte (a b c : CK) : CK := ckEx fun s e => match e with | .IfExp x y z _ => a.e s x && (b.e s y && c.e s z) | _ => false
theorem sIte (ha : Sound T n N p A a) (hb : Sound T n N p B b) (hc : Sound T n N p C c) : Sound T n N p (.ite A B C) (ckIte a b c) := sEx fun {X W s x} O R r h => by
  split at h
  · simp only [Bool.and_eq_true] at h
    exact s_ite O (ha.e O R r h.1) (hb.e O R r h.2.1) (hc.e O R r h.2.2)
  · cases h

/-! ### displays, items -/
def ckTup (a : CK) : CK := ckEx fun s e => match e with | .Tuple l _ _ => a.a s l | _ => false
theorem sTup (ha : Sound T n N p A a) : Sound T n N p (.tup A) (ckTup a) := sEx fun {X W s x} O R r h => by
  split at h
  · exact s_tup O (ha.a O R r h)
  · cases h
def ckLst (a : CK) : CK := ckEx fun s e => match e with | .List l _ => a.a s l | _ => false
theorem sLst (ha : Sound T n N p A a) : Sound T n N p (.lst A) (ckLst a) := sEx fun {X W s x} O R r h => by
  split at h
  · exact s_lst O (ha.a O R r h)
  · cases h
def ckIx (a b : CK) : CK := ckEx fun s e => match e with | .Subscript x y _ => a.e s x && (b.e s y && plainIx y) | _ => false
theorem sIx (ha : Sound T n N p A a) (hb : Sound T n N p B b) : Sound T n N p (.ix A B) (ckIx a b) := sEx fun {X W s x} O R r h => by
  split at h
  · simp only [Bool.and_eq_true] at h
    exact s_ix O (ha.e O R r h.1) (hb.e O R r h.2.1) h.2.2
  · cases h
def ckSl (a b c : CK) : CK := ckEx fun s e => match e with | .Subscript x (.Slice lo hi none _) _ => a.e s x && (b.o s lo && c.o s hi) | _ => false
theorem sSl (ha : Sound T n N p A a) (hb : Sound T n N p B b) (hc : Sound T n N p C c) : Sound T n N p (.sl A B C) (ckSl a b c) := sEx fun {X W s x} O R r h => by
  split at h
  · simp only [Bool.and_eq_true] at h
    exact s_sl O (ha.e O R r h.1) (hb.o O R r h.2.1) (hc.o O R r h.2.2)
  · cases h

/-! ### calls -/
def fnB (t : Tn) (i : Nat) (x : Str) : Bool := t.fns.any fun q => q.1 == i && decide (q.2 = x)
theorem fnB_ok {i : Nat} {x : Str} (h : fnB t i x = true) : (i, x) ∈ t.fns := by
  unfold fnB at h
  rw [List.any_eq_true] at h
  obtain ⟨⟨j, y⟩, h1, h2⟩ := h
  simp only [Bool.and_eq_true, beq_iff_eq, decide_eq_true_eq] at h2
  obtain ⟨rfl, rfl⟩ := h2
  exact h1
def ckCall (t : Tn) (i : Nat) (a : CK) : CK := ckEx fun s e => match e with | .Call (.Name x _) (y :: l) [] _ => fnB t i x && (glB s x && (notDbg x && a.a s (y :: l))) | _ => false
theorem sCall {i : Nat} (K : TnOk T t n p) (ha : Sound T n N p A a) : Sound T n N p (.call i A) (ckCall t i a) := sEx fun {X W s x} O R r h => by
  split at h
  · simp only [Bool.and_eq_true, decide_eq_true_eq] at h
    obtain ⟨f, fd, ps, h1, h2, h3, h4, _⟩ := K.fn i _ (fnB_ok h.1)
    exact s_call O (by rw [O.prog, O.w, O.K, O.mg, O.base]; exact h1) r (R.gl h.2.1) (by rw [O.mg]; exact h2) (by rw [O.K]; exact h3) (by rw [O.K]; exact h4) (notDbg_ok h.2.2.1).1 (ha.a O R r h.2.2.2)
  · cases h
def kwOf (t : Tn) (i : Nat) (perm : List Nat) : List (Nat × List Str × List Nat) := t.kws.filter fun z => z.1 == i && decide (z.2.2 = perm)
def ckCallK (t : Tn) (i : Nat) (perm : List Nat) (a : CK) : CK := ckEx fun s e => match e with
  | .Call (.Name x _) [] kws _ => fnB t i x && (glB s x && (notDbg x && (kwOf t i perm).any fun z => a.w s kws z.2.1)) | _ => false
theorem sCallK {i : Nat} {perm : List Nat} (K : TnOk T t n p) (ha : Sound T n N p A a) : Sound T n N p (.callK i A perm) (ckCallK t i perm a) := sEx fun {X W s x} O R r h => by
  split at h
  · simp only [Bool.and_eq_true, decide_eq_true_eq, List.any_eq_true] at h
    obtain ⟨f, fd, ps, h1, h2, h3, h4, h5⟩ := K.fn i _ (fnB_ok h.1)
    obtain ⟨h6, h7, h8, ⟨j, ks, pm⟩, hz, hw⟩ := h
    unfold kwOf at hz
    rw [List.mem_filter] at hz
    obtain ⟨hz, hq⟩ := hz
    simp only [Bool.and_eq_true, decide_eq_true_eq, beq_iff_eq] at hq
    obtain ⟨rfl, rfl⟩ := hq
    obtain ⟨nd, hb⟩ := h5 ks pm hz
    exact s_callK O (by rw [O.prog, O.w, O.K, O.mg, O.base]; exact h1) r (R.gl h7) (by rw [O.mg]; exact h2) (by rw [O.K]; exact h3) (by rw [O.K]; exact hb) nd (notDbg_ok h8).1 (ha.w O R r hw)
  · cases h
/-- a built-in's name -/
def bltB (t : Tn) (s : Sc) (y x : Str) : Bool := decide (x = y) && (glB s y && t.nones.contains y)
theorem bltB_ok {X : Cx} {W : WX} {s : Sc} {x y : Str} (K : TnOk T t n p) (O : XOk T W X) (R : InX N s X) (h : bltB t s y x = true) : x = y ∧ Gl X y ∧ X.mg y = none := by
  unfold bltB at h
  simp only [Bool.and_eq_true, decide_eq_true_eq] at h
  exact ⟨h.1, R.gl h.2.1, by rw [O.mg]; exact K.no _ h.2.2⟩
def ckBi (t : Tn) (b : Bi) (a : CK) : CK := ckEx fun s e => match e with | .Call (.Name x _) (y :: l) [] _ => bltB t s (Str.ofString (biName b)) x && (biOk b && a.a s (y :: l)) | _ => false
theorem sBi {o : Bi} (K : TnOk T t n p) (ha : Sound T n N p A a) : Sound T n N p (.bi o A) (ckBi t o a) := sEx fun {X W s x} O R r h => by
  split at h
  · simp only [Bool.and_eq_true] at h
    obtain ⟨rfl, h1, h2⟩ := bltB_ok K O R h.1
    exact s_bi O K.rep h.2.1 h1 h2 (ha.a O R r h.2.2)
  · cases h
def ckDivmod (t : Tn) (a b : CK) : CK := ckEx fun s e => match e with | .Call (.Name x _) [y, z] [] _ => bltB t s "divmod" x && ([y, z].all noStar && (a.e s y && b.e s z)) | _ => false
theorem sDivmod (K : TnOk T t n p) (ha : Sound T n N p A a) (hb : Sound T n N p B b) : Sound T n N p (.divmod A B) (ckDivmod t a b) := sEx fun {X W s x} O R r h => by
  split at h
  · rw [Bool.and_eq_true, Bool.and_eq_true, Bool.and_eq_true] at h
    obtain ⟨rfl, h1, h2⟩ := bltB_ok K O R h.1
    exact s_divmod O h1 h2 (ha.e O R r h.2.2.1) (hb.e O R r h.2.2.2) h.2.1
  · cases h
def abOk : Expr → Bool
  | .Name _ _ => true
  | .Subscript _ _ _ => true
  | .Call _ (_ :: _) _ _ => true
  | .ListComp _ _ _ _ => true
  | _ => false
theorem ab_ok {e : Expr} {m : Str} {env : PySem.Env} {w : Sem Value} (h : abOk e = true) : attributeBase e m env w = w := by
  unfold attributeBase
  split
  · cases h
  · rfl
def ckMt (m : Mt) (a b : CK) : CK := ckEx fun s e => match m, e with
  | .index, .Call (.Attribute x nm ap) [y] [] q => decide (nm = ("index" : Str)) && (abOk x && ((ap.endLine == q.line) && (a.e s x && b.a s [y])))
  | _, _ => false
theorem sMt {m : Mt} (ha : Sound T n N p A a) (hb : Sound T n N p B b) : Sound T n N p (.mt m A B) (ckMt m a b) := sEx fun {X W s x} O R r h => by
  split at h
  · rw [Bool.and_eq_true, Bool.and_eq_true, Bool.and_eq_true, Bool.and_eq_true, decide_eq_true_eq] at h
    obtain ⟨rfl, h1, h2, h3, h4⟩ := h
    exact s_index O (ab_ok h1) h2 (ha.e O R r h3) (hb.a O R r h4)
  · cases h
def ckMu (N : List Str) (m : Mu) (i : Nat) (a : CK) : CK := ckEx fun s e => match m, e with
  | .append, .Call (.Attribute (.Name x _) nm ap) [y] [] q => decide (nm = ("append" : Str)) && (varB N s i x && ((ap.endLine == q.line) && a.a s [y]))
  | _, _ => false
theorem sMu {m : Mu} {i : Nat} (ha : Sound T n N p A a) : Sound T n N p (.mu m i A) (ckMu N m i a) := sEx fun {X W s x} O R r h => by
  split at h
  · rw [Bool.and_eq_true, Bool.and_eq_true, Bool.and_eq_true, decide_eq_true_eq] at h
    obtain ⟨rfl, h1, h2, h3⟩ := h
    obtain ⟨k1, k2, k3, k4⟩ := R.var h1
    exact s_app O k1 k2 k3 k4 h2 (ha.a O R r h3)
  · cases h
def ckIsi (t : Tn) (y : Ty) (a : CK) : CK := ckEx fun s e => match e with
  | .Call (.Name x _) [z, .Name u _] [] _ => bltB t s "isinstance" x && (bltB t s (Str.ofString (tyName y)) u && (noStar z && a.e s z)) | _ => false
theorem sIsi {y : Ty} (K : TnOk T t n p) (ha : Sound T n N p A a) : Sound T n N p (.isi A y) (ckIsi t y a) := sEx fun {X W s x} O R r h => by
  split at h
  · rw [Bool.and_eq_true, Bool.and_eq_true, Bool.and_eq_true] at h
    obtain ⟨rfl, h1, h2⟩ := bltB_ok K O R h.1
    obtain ⟨rfl, h3, h4⟩ := bltB_ok K O R h.2.1
    exact s_isi O h1 h2 h3 h4 (ha.e O R r h.2.2.2) h.2.2.1
  · cases h
def ckLrng (t : Tn) (a : CK) : CK := ckEx fun s e => match e with
  | .Call (.Name x _) [.Call (.Name u _) (z :: l) [] _] [] _ => bltB t s "list" x && (bltB t s "range" u && a.a s (z :: l)) | _ => false
theorem sLrng (K : TnOk T t n p) (ha : Sound T n N p A a) : Sound T n N p (.lrng A) (ckLrng t a) := sEx fun {X W s x} O R r h => by
  split at h
  · rw [Bool.and_eq_true, Bool.and_eq_true] at h
    obtain ⟨rfl, h1, h2⟩ := bltB_ok K O R h.1
    obtain ⟨rfl, h3, h4⟩ := bltB_ok K O R h.2.1
    exact s_lrng O h1 h2 h3 h4 (ha.a O R r h.2.2)
  · cases h
def ckTrng (t : Tn) (a : CK) : CK := ckEx fun s e => match e with
  | .Call (.Name x _) [.Call (.Name u _) (z :: l) [] _] [] _ => bltB t s "tuple" x && (bltB t s "range" u && a.a s (z :: l)) | _ => false
theorem sTrng (K : TnOk T t n p) (ha : Sound T n N p A a) : Sound T n N p (.trng A) (ckTrng t a) := sEx fun {X W s x} O R r h => by
  split at h
  · rw [Bool.and_eq_true, Bool.and_eq_true] at h
    obtain ⟨rfl, h1, h2⟩ := bltB_ok K O R h.1
    obtain ⟨rfl, h3, h4⟩ := bltB_ok K O R h.2.1
    exact s_trng O h1 h2 h3 h4 (ha.a O R r h.2.2)
  · cases h

/-! ### walks -/
def ckItP (a : CK) : CK := ckIt fun s g e => noSetE e && a.e s e
theorem sItP (ha : Sound T n N p A a) : Sound T n N p (.itP A) (ckItP a) := sIt fun {X W s g x} O R r h => by
  rw [Bool.and_eq_true] at h
  exact si_p O (ha.e O R r h.2) h.1
def ckItR (t : Tn) (a : CK) : CK := ckIt fun s g e => match e with | .Call (.Name x _) (y :: l) [] _ => bltB t s "range" x && a.a s (y :: l) | _ => false
theorem sItR (K : TnOk T t n p) (ha : Sound T n N p A a) : Sound T n N p (.itR A) (ckItR t a) := sIt fun {X W s g x} O R r h => by
  split at h
  · rw [Bool.and_eq_true] at h
    obtain ⟨rfl, h1, h2⟩ := bltB_ok K O R h.1
    exact si_r O h1 h2 (ha.a O R r h.2)
  · cases h
def ckItE (t : Tn) (a : CK) : CK := ckIt fun s g e => match g, e with | .Tuple _ _ _, .Call (.Name x _) [y] [] _ => bltB t s "enumerate" x && (noStar y && a.e s y) | _, _ => false
theorem sItE (K : TnOk T t n p) (ha : Sound T n N p A a) : Sound T n N p (.itE A) (ckItE t a) := sIt fun {X W s g x} O R r h => by
  split at h
  · rw [Bool.and_eq_true, Bool.and_eq_true] at h
    obtain ⟨rfl, h1, h2⟩ := bltB_ok K O R h.1
    exact si_en O h1 h2 (ha.e O R r h.2.2) h.2.1 rfl
  · cases h

/-! ### displays of dicts -/
def okDis : Ev.E → Bool
  | .dnil => true
  | .dun _ (.dun _ .dnil) => true
  | .dkv _ _ .dnil => true
  | _ => false
def ckDnil : CK := { ckNo with d := fun _ l m => l.isEmpty && m.isEmpty }
theorem sDnil : Sound T n N p .dnil ckDnil :=
  ⟨fun _ _ _ h => ff h, fun _ _ _ h => ff h, fun _ _ _ h => ff h, fun _ _ _ h => ff h, fun _ _ _ h => ff h, fun _ _ _ h => ff h, fun _ _ _ h => ff h, fun {X W s l x} O R r h => by
    cases l with
    | nil => cases x with
      | nil => exact .nil
      | cons _ _ => cases h
    | cons _ _ => cases h⟩
def ckDun (a b : CK) : CK := { ckNo with d := fun s l m => match l, m with | none :: ks, e :: es => a.e s e && b.d s ks es | _, _ => false }
theorem sDun (ha : Sound T n N p A a) (hb : Sound T n N p B b) : Sound T n N p (.dun A B) (ckDun a b) :=
  ⟨fun _ _ _ h => ff h, fun _ _ _ h => ff h, fun _ _ _ h => ff h, fun _ _ _ h => ff h, fun _ _ _ h => ff h, fun _ _ _ h => ff h, fun _ _ _ h => ff h, fun {X W s l x} O R r h => by
    simp only [ckDun] at h
    split at h
    · simp only [Bool.and_eq_true] at h
      exact .un (ha.e O R r h.1) (hb.d O R r h.2)
    · cases h⟩
def ckDkv (a b c : CK) : CK := { ckNo with d := fun s l m => match l, m with | some k :: ks, e :: es => a.e s k && (b.e s e && c.d s ks es) | _, _ => false }
theorem sDkv (ha : Sound T n N p A a) (hb : Sound T n N p B b) (hc : Sound T n N p C c) : Sound T n N p (.dkv A B C) (ckDkv a b c) :=
  ⟨fun _ _ _ h => ff h, fun _ _ _ h => ff h, fun _ _ _ h => ff h, fun _ _ _ h => ff h, fun _ _ _ h => ff h, fun _ _ _ h => ff h, fun _ _ _ h => ff h, fun {X W s l x} O R r h => by
    simp only [ckDkv] at h
    split at h
    · simp only [Bool.and_eq_true] at h
      exact .kv (ha.e O R r h.1) (hb.e O R r h.2.1) (hc.d O R r h.2.2)
    · cases h⟩
def ckDds (tk : Bool) (l : Ev.E) (a : CK) : CK := ckEx fun s e => match e with | .Dict ks vs _ => !tk && (okDis l && a.d s ks vs) | _ => false
theorem sDds {tk : Bool} (ha : Sound T n N p A a) : Sound T n N p (.dds tk A) (ckDds tk A a) := sEx fun {X W s x} O R r h => by
  split at h
  · simp only [Bool.and_eq_true, Bool.not_eq_true'] at h
    obtain ⟨rfl, h1, h2⟩ := h
    have q := ha.d O R r h2
    cases q with
    | nil => exact s_dnil O
    | un e1 q =>
      cases q with
      | nil => cases h1
      | un e2 q =>
        cases q with
        | nil => exact s_un O e1 e2
        | un _ _ => cases h1
        | kv _ _ _ => cases h1
      | kv _ _ _ => cases h1
    | kv e1 e2 q =>
      cases q with
      | nil => exact s_dkv O e1 e2
      | un _ _ => cases h1
      | kv _ _ _ => cases h1
  · cases h

/-! ### targets -/
def ckG (N : List Str) : Ev.G → (Sc → Expr → Bool) × (Sc → List Expr → Bool)
  | .nm i _ => (fun s e => match e with | .Name x _ => decide (N[i]? = some x) && stoB s x | _ => false, fun _ _ => false)
  | .nil => (fun _ _ => false, fun _ l => l.isEmpty)
  | .cons a b => (fun _ _ => false, fun s l => match l with | e :: es => (ckG N a).1 s e && (ckG N b).2 s es | [] => false)
  | .tup l => (fun s e => match e with | .Tuple es _ _ => (ckG N l).2 s es | _ => false, fun _ _ => false)
theorem ckG_ok : ∀ (g : Ev.G), (∀ {X : Cx} {W : WX} {s : Sc} {e : Expr}, XOk T W X → InX N s X → (ckG N g).1 s e = true → SG T X e g) ∧ (∀ {X : Cx} {W : WX} {s : Sc} {l : List Expr}, XOk T W X → InX N s X → (ckG N g).2 s l = true → SGs T X l g) := fun g => by
  induction g with
  | nm i own =>
    refine ⟨fun {X W s e} O R h => ?_, fun _ _ h => ff h⟩
    dsimp only [ckG] at h; split at h
    · simp only [Bool.and_eq_true, decide_eq_true_eq] at h
      obtain ⟨h1, h2⟩ := R.sto h.2
      exact sg_nm (by rw [R.N]; exact R.nd) (by rw [R.N]; exact h.1) h1 h2
    · cases h
  | nil =>
    refine ⟨fun _ _ h => ff h, fun {X W s l} O R h => ?_⟩
    cases l with
    | nil => exact sgs_nil
    | cons _ _ => cases h
  | cons a b iha ihb =>
    refine ⟨fun _ _ h => ff h, fun {X W s l} O R h => ?_⟩
    cases l with
    | nil => cases h
    | cons e es =>
      unfold ckG at h; simp only [Bool.and_eq_true] at h
      exact sgs_cons (iha.1 O R h.1) (ihb.2 O R h.2)
  | tup l ih =>
    refine ⟨fun {X W s e} O R h => ?_, fun _ _ h => ff h⟩
    dsimp only [ckG] at h; split at h
    · exact sg_tup O (ih.2 O R h)
    · cases h

/-! ### comprehensions -/
def blkSc (s : Sc) (scope : Scope) : Sc := ⟨relS scope s.sc, fun x => scope.names.lookup x == some .cell⟩
theorem InX.blk {X : Cx} {s : Sc} (R : InX N s X) (sh : Shared) (H : Hp) (scope : Scope) (cl : List (Str × Addr)) (C : Addr) (fp : List Addr) : InX N (blkSc s scope) (X.blk sh H scope (compEnvC scope cl C X.env) fp) :=
  ⟨R.nd, R.N, by show relS scope X.env.scope = relS scope s.sc; rw [R.sc], fun x h => h⟩
def ownOf (N : List Str) (vs : List Nat) : List (Str × Nat) := vs.map fun v => (N.getD v "", v)
theorem ownOf_snd : ∀ vs : List Nat, (ownOf N vs).map (·.2) = vs := fun vs => by
  unfold ownOf
  rw [List.map_map]
  exact List.map_id'' (fun _ => rfl) vs
def inB (l m : List Nat) : Bool := l.all fun i => m.contains i
theorem inB_ok {l m : List Nat} (h : inB l m = true) : ∀ i ∈ l, i ∈ m := fun i hi => by
  have := List.all_eq_true.mp h i hi
  simpa using this
def ckLc (N : List Str) (g : Ev.G) (it fs e : CK) (vs : List Nat) : CK := ckEx fun s x => match x with
  | .ListComp elt [⟨tg, iter, ifs, 0⟩] scope _ => blkC N s.sc scope (ownOf N vs) && (inB (gv g) vs && (it.i s tg iter && ((ckG N g).1 (blkSc s scope) tg && (fs.f (blkSc s scope) ifs && e.e (blkSc s scope) elt))))
  | _ => false
theorem sLc {g : Ev.G} {vs : List Nat} (ha : Sound T n N p A a) (hb : Sound T n N p B b) (hc : Sound T n N p C c) : Sound T n N p (.lc g A B C vs) (ckLc N g a b c vs) := sEx fun {X W s x} O R r h => by
  split at h
  · simp only [Bool.and_eq_true] at h
    obtain ⟨h1, h2, h3, h4, h5, h6⟩ := h
    exact s_lc O (by rw [R.N]; exact R.nd) (ha.i O R r h3) (by rw [R.N, R.sc]; exact blkOk_by h1) (ownOf_snd vs) (inB_ok h2) (fun sh H C cl fp => (ckG_ok g).1 (O.blk sh H _ _ fp) (R.blk sh H _ cl C fp) h4)
      (fun sh H C cl fp => hb.f (O.blk sh H _ _ fp) (R.blk sh H _ cl C fp) r h5) (fun sh H C cl fp => hc.e (O.blk sh H _ _ fp) (R.blk sh H _ cl C fp) r h6)
  · cases h
def ckLc2 (N : List Str) (g : Ev.G) (it fs : CK) (g1 : Ev.G) (it1 fs1 e : CK) (vs vs1 : List Nat) : CK := ckEx fun s x => match x with
  | .ListComp elt [⟨tg, iter, ifs, 0⟩, ⟨tg1, iter1, ifs1, 0⟩] scope _ => blkC N s.sc scope (ownOf N vs) && (inB (gv g) vs && (inB (gv g1) vs1 && (inB vs1 vs && (noSetE iter1 && (it.i s tg iter && ((ckG N g).1 (blkSc s scope) tg && (fs.f (blkSc s scope) ifs &&
    (it1.i (blkSc s scope) tg1 iter1 && ((ckG N g1).1 (blkSc s scope) tg1 && (fs1.f (blkSc s scope) ifs1 && e.e (blkSc s scope) elt))))))))))
  | _ => false
theorem sLc2 {g g1 : Ev.G} {vs vs1 : List Nat} {F F1 : Ev.E} {f f1 : CK} (ha : Sound T n N p A a) (hf : Sound T n N p F f) (hb : Sound T n N p B b) (hf1 : Sound T n N p F1 f1) (hc : Sound T n N p C c) : Sound T n N p (.lc2 g A F g1 B F1 C vs vs1) (ckLc2 N g a f g1 b f1 c vs vs1) := sEx fun {X W s x} O R r h => by
  split at h
  · simp only [Bool.and_eq_true] at h
    obtain ⟨h1, h2, h3, h4, h5, h6, h7, h8, h9, h10, h11, h12⟩ := h
    exact s_lc2 O (by rw [R.N]; exact R.nd) (ha.i O R r h6) (by rw [R.N, R.sc]; exact blkOk_by h1) (ownOf_snd vs) (inB_ok h2) (inB_ok h3) (inB_ok h4) h5 (fun sh H C cl fp => (ckG_ok g).1 (O.blk sh H _ _ fp) (R.blk sh H _ cl C fp) h7)
      (fun sh H C cl fp => hf.f (O.blk sh H _ _ fp) (R.blk sh H _ cl C fp) r h8) (fun sh H C cl fp => hb.i (O.blk sh H _ _ fp) (R.blk sh H _ cl C fp) r h9) (fun sh H C cl fp => (ckG_ok g1).1 (O.blk sh H _ _ fp) (R.blk sh H _ cl C fp) h10)
      (fun sh H C cl fp => hf1.f (O.blk sh H _ _ fp) (R.blk sh H _ cl C fp) r h11) (fun sh H C cl fp => hc.e (O.blk sh H _ _ fp) (R.blk sh H _ cl C fp) r h12)
  · cases h
def ckDc (N : List Str) (g : Ev.G) (it fs k e : CK) (vs : List Nat) : CK := ckEx fun s x => match x with
  | .DictComp key elt [⟨tg, iter, ifs, 0⟩] scope _ => blkC N s.sc scope (ownOf N vs) && (inB (gv g) vs && (it.i s tg iter && ((ckG N g).1 (blkSc s scope) tg && (fs.f (blkSc s scope) ifs && (k.e (blkSc s scope) key && e.e (blkSc s scope) elt)))))
  | _ => false
theorem sDc {tk : Bool} {g : Ev.G} {vs : List Nat} {d : CK} (ha : Sound T n N p A a) (hb : Sound T n N p B b) (hc : Sound T n N p C c) (hd : Sound T n N p D' d) : Sound T n N p (.dc tk g A B C D' vs) (ckDc N g a b c d vs) := sEx fun {X W s x} O R r h => by
  split at h
  · simp only [Bool.and_eq_true] at h
    obtain ⟨h1, h2, h3, h4, h5, h6, h7⟩ := h
    exact s_dc O (by rw [R.N]; exact R.nd) (ha.i O R r h3) (by rw [R.N, R.sc]; exact blkOk_by h1) (ownOf_snd vs) (inB_ok h2) (fun sh H C cl fp => (ckG_ok g).1 (O.blk sh H _ _ fp) (R.blk sh H _ cl C fp) h4)
      (fun sh H C cl fp => hb.f (O.blk sh H _ _ fp) (R.blk sh H _ cl C fp) r h5) (fun sh H C cl fp => hc.e (O.blk sh H _ _ fp) (R.blk sh H _ cl C fp) r h6) (fun sh H C cl fp => hd.e (O.blk sh H _ _ fp) (R.blk sh H _ cl C fp) r h7)
  · cases h
end

/-! ### the whole -/
def ck (t : Tn) (N : List Str) : Ev.E → CK
  | .nil => ckNil
  | .cons a b => ckCons (ck t N a) (ck t N b)
  | .var i => ckVar N i
  | .bor i => ckVar N i
  | .lend i => ckVar N i
  | .give a => ckGive (ck t N a)
  | .int i => ckInt i
  | .bl b => ckBl b
  | .non => ckNon
  | .str s => ckStr s
  | .glob i => ckGlob t i
  | .bin o a b => ckBin o (ck t N a) (ck t N b)
  | .neg a => ckNeg (ck t N a)
  | .not a => ckNot (ck t N a)
  | .cmp a l => if okLink l then ckCmp (ck t N a) (ck t N l) else ckNo
  | .link o b r => ckLink o (ck t N b) (ck t N r)
  | .and a b => ckAnd (ck t N a) (ck t N b)
  | .or a b => ckOr (ck t N a) (ck t N b)
  | .ite a b c => ckIte (ck t N a) (ck t N b) (ck t N c)
  | .tup a => ckTup (ck t N a)
  | .lst a => ckLst (ck t N a)
  | .ix a b => ckIx (ck t N a) (ck t N b)
  | .sl a b c => ckSl (ck t N a) (ck t N b) (ck t N c)
  | .call i a => ckCall t i (ck t N a)
  | .callK i a perm => ckCallK t i perm (ck t N a)
  | .bi b a => ckBi t b (ck t N a)
  | .divmod a b => ckDivmod t (ck t N a) (ck t N b)
  | .mt m a b => ckMt m (ck t N a) (ck t N b)
  | .mu m i a => ckMu N m i (ck t N a)
  | .isi a y => ckIsi t y (ck t N a)
  | .lrng a => ckLrng t (ck t N a)
  | .trng a => ckTrng t (ck t N a)
  | .itP a => ckItP (ck t N a)
  | .itR a => ckItR t (ck t N a)
  | .itE a => ckItE t (ck t N a)
  | .dnil => ckDnil
  | .dun a b => ckDun (ck t N a) (ck t N b)
  | .dkv a b c => ckDkv (ck t N a) (ck t N b) (ck t N c)
  | .dds tk l => ckDds tk l (ck t N l)
  | .lc g a b c vs => ckLc N g (ck t N a) (ck t N b) (ck t N c) vs
  | .lc2 g a f g1 b f1 c vs vs1 => ckLc2 N g (ck t N a) (ck t N f) g1 (ck t N b) (ck t N f1) (ck t N c) vs vs1
  | .dc _ g a b c d vs => ckDc N g (ck t N a) (ck t N b) (ck t N c) (ck t N d) vs
  | _ => ckNo
termination_by structural e => e
section
variable {T : Tb} {t : Tn} {n : Nat} {N : List Str} {p : Par}
theorem ck_ok (K : TnOk T t n p) : ∀ A : Ev.E, Sound T n N p A (ck t N A) := fun A => by
  induction A with
  | nil => exact sNil
  | cons a b iha ihb => exact sCons iha ihb
  | var i => exact sVar
  | bor i => exact sBor
  | lend i => exact sLend
  | give a ih => exact sGive ih
  | int i => exact sInt
  | bl b => exact sBl
  | non => exact sNon
  | str s => exact sStr
  | glob i => exact sGlob K
  | bin o a b iha ihb => exact sBin iha ihb
  | neg a ih => exact sNeg ih
  | not a ih => exact sNot ih
  | cmp a l iha ihl =>
    show Sound T n N p _ (if okLink l then ckCmp (ck t N a) (ck t N l) else ckNo)
    by_cases h : okLink l = true
    · rw [if_pos h]; exact sCmp iha ihl h
    · rw [if_neg h]; exact sNo
  | link o b r ihb ihr => exact sLink ihb ihr
  | and a b iha ihb => exact sAnd iha ihb
  | or a b iha ihb => exact sOr iha ihb
  | ite a b c iha ihb ihc => exact sIte iha ihb ihc
  | tup a ih => exact sTup ih
  | lst a ih => exact sLst ih
  | ix a b iha ihb => exact sIx iha ihb
  | sl a b c iha ihb ihc => exact sSl iha ihb ihc
  | call i a ih => exact sCall K ih
  | callK i a perm ih => exact sCallK K ih
  | bi b a ih => exact sBi K ih
  | divmod a b iha ihb => exact sDivmod K iha ihb
  | mt m a b iha ihb => exact sMt iha ihb
  | mu m i a ih => exact sMu ih
  | isi a y ih => exact sIsi K ih
  | lrng a ih => exact sLrng K ih
  | trng a ih => exact sTrng K ih
  | itP a ih => exact sItP ih
  | itR a ih => exact sItR K ih
  | itE a ih => exact sItE K ih
  | dnil => exact sDnil
  | dun a b iha ihb => exact sDun iha ihb
  | dkv a b c iha ihb ihc => exact sDkv iha ihb ihc
  | dds tk l ih => exact sDds ih
  | lc g a b c vs iha ihb ihc => exact sLc iha ihb ihc
  | lc2 g a f g1 b f1 c vs vs1 iha ihf ihb ihf1 ihc => exact sLc2 iha ihf ihb ihf1 ihc
  | dc tk g a b c d vs iha ihb ihc ihd => exact sDc iha ihb ihc ihd
  | _ => exact sNo
end
end Ev
end

section
set_option Elab.async false
set_option linter.all false
set_option maxRecDepth 100000
set_option maxHeartbeats 1000000
/-! Ev6: the check of statements. -/
namespace Ev
open PySem PySem.Spec L2

section
variable {T : Tb} {W : WX} {X : Cx} {p : Par} {w : Nat} {t : Tn} {n : Nat} {N : List Str} {s : Sc} {A : Ev.E}
/-- name = [.. for .. for ..] on one line -/
theorem lc2_set (O : XOk T W X) {i : Nat} {y : Str} {py : Pos} {tg iter tg1 iter1 elt : Expr} {ifs ifs1 : List Expr} {scope : Scope} {own : List (Str × Nat)} {pos spos : Pos} {g g1 : Ev.G} {it fs it1 fs1 e : Ev.E} {vs vs1 : List Nat} (hN : X.N.Nodup) (hy : X.N[i]? = some y) (hyl : X.env.scope.names.lookup y = some .local)
    (hsw : swapsWith (.ListComp elt [⟨tg, iter, ifs, 0⟩, ⟨tg1, iter1, ifs1, 0⟩] scope pos) (some (.Name y py)) spos.line X.env = pure true) (hi : SI T W X p tg iter it) (ok : BlkOk X.N X.env.scope scope own) (hvs : own.map (·.2) = vs)
    (hgv : ∀ i ∈ gv g, i ∈ vs) (hgv1 : ∀ i ∈ gv g1, i ∈ vs1) (hv1 : ∀ i ∈ vs1, i ∈ vs) (hs1 : noSetE iter1 = true)
    (hg : ∀ (s : Shared) (H : Hp) (C : Addr) (cl : List (Str × Addr)) (fp : List Addr), SG T (X.blk s H scope (compEnvC scope cl C X.env) fp) tg g) (ht : ∀ (s : Shared) (H : Hp) (C : Addr) (cl : List (Str × Addr)) (fp : List Addr), SF T W0 (X.blk s H scope (compEnvC scope cl C X.env) fp) p ifs fs)
    (hi1 : ∀ (s : Shared) (H : Hp) (C : Addr) (cl : List (Str × Addr)) (fp : List Addr), SI T W0 (X.blk s H scope (compEnvC scope cl C X.env) fp) p tg1 iter1 it1)
    (hg1 : ∀ (s : Shared) (H : Hp) (C : Addr) (cl : List (Str × Addr)) (fp : List Addr), SG T (X.blk s H scope (compEnvC scope cl C X.env) fp) tg1 g1) (ht1 : ∀ (s : Shared) (H : Hp) (C : Addr) (cl : List (Str × Addr)) (fp : List Addr), SF T W0 (X.blk s H scope (compEnvC scope cl C X.env) fp) p ifs1 fs1)
    (he : ∀ (s : Shared) (H : Hp) (C : Addr) (cl : List (Str × Addr)) (fp : List Addr), SE T W0 (X.blk s H scope (compEnvC scope cl C X.env) fp) p elt e) :
    PS X (.Assign [.Name y py] (.ListComp elt [⟨tg, iter, ifs, 0⟩, ⟨tg1, iter1, ifs1, 0⟩] scope pos) spos) (tAsg (TEv T W (ev p (.lc2 g it fs g1 it1 fs1 e vs vs1))) (gName i)) := by
  subst hvs
  exact (ps_setLc2 O.calm hN hy hyl hsw hi.pi ok hv1 (fun s H C cl fp => (hg s H C cl fp).pg) (fun s H C cl fp => (ht s H C cl fp).pt) (fun s H C cl fp => (hi1 s H C cl fp).pi) (fun s H C cl fp => (hg1 s H C cl fp).pg) (fun s H C cl fp => (ht1 s H C cl fp).pt) (fun s H C cl fp => (he s H C cl fp).pe) hi.fs (fun env => noSet_fs hs1 env)).imp fun D σ H h => lc2_read hgv hgv1 hv1 h

/-! ### which store is exchanged -/
def noComp : Expr → Bool
  | .ListComp _ _ _ _ => false
  | .SetComp _ _ _ _ => false
  | .DictComp _ _ _ _ _ => false
  | _ => true
theorem sw_no {e : Expr} {tg : Option Expr} {l : Nat} {env : PySem.Env} (h : noComp e = true) : swapsWith e tg l env = pure false := by
  unfold swapsWith
  cases e <;> first | rfl | exact ff h
def isTup : Expr → Bool
  | .Tuple _ _ _ => true
  | .Subscript _ _ _ => true
  | _ => false
theorem sw_tup {e tg : Expr} {l : Nat} {env : PySem.Env} (h : isTup tg = true) : swapsWithSole [tg] e l env = pure false := by
  unfold isTup at h
  show swapsWith e (some tg) l env = pure false
  unfold swapsWith
  split at h
  · split <;> rfl
  · split <;> rfl
  · cases h
def cellB (s : Sc) (x : Str) : Bool := match s.sc.names.lookup x with
  | some .cell => true
  | _ => false
theorem sw_cell {e : Expr} {x : Str} {px : Pos} {l : Nat} (R : InX N s X) (h : cellB s x = true) : swapsWith e (some (.Name x px)) l X.env = pure false := by
  unfold cellB at h
  have k : X.env.kindOf x = some .cell := by
    unfold Env.kindOf
    rw [R.sc]
    split at h
    · assumption
    · cases h
  by_cases hc : noComp e = true
  · exact sw_no hc
  · unfold swapsWith
    have nc : (some NameKind.cell == some NameKind.local) = false := rfl
    cases e <;> first | exact absurd rfl hc | (dsimp only; rw [k, nc, Bool.and_false, Bool.false_and, Bool.false_and])
/-- no two lists of one kind -/
def notTT (tg e : Expr) : Bool := match tg, e with
  | .Tuple _ _ _, .Tuple _ _ _ => false
  | .List _ _, _ => false
  | _, _ => true
theorem ss_none {tg e : Expr} {env : PySem.Env} (h : notTT tg e = true) : swappedStores [tg] e env = pure none := by
  unfold swappedStores
  cases tg <;> first | rfl | exact ff h | (cases e <;> first | rfl | exact ff h)
def swB (x : Str) (px : Pos) : Expr → Bool
  | .ListComp _ _ scope pos => (px.line == pos.line) && !(scope.names.any fun (n, k) => n == x && (k == .local || k == .cell))
  | _ => false
/-- two stores, exchanged -/
theorem par_sw {x y : Str} {px py pt pt2 : Pos} {kt k2 : Nat} {a b : Expr} (hk : X.env.scope.kind = .function) (hx : X.env.scope.names.lookup x = some .local) (hy : X.env.scope.names.lookup y = some .local) (hxy : x ≠ y) (hl : (py.line == px.line) = true)
    (na : noStar a = true) (nb : noStar b = true) (hf : (foldedForSure 8 a && foldedForSure 8 b) = false) (hc : (constantsAlone 8 a && constantsAlone 8 b) = false) :
    swappedStores [.Tuple [.Name x px, .Name y py] kt pt] (.Tuple [a, b] k2 pt2) X.env = pure (some [x, y]) := by
  have kx : X.env.kindOf x = some .local := hx
  have ky : X.env.kindOf y = some .local := hy
  have hb : X.env.blockKind = .function := by unfold Env.blockKind; rw [hk]; rfl
  have st : ([a, b].any fun | .Starred .. => true | _ => false) = false := by
    cases a <;> first | exact ff na | (cases b <;> first | rfl | exact ff nb)
  have hd : [x, y].eraseDups.length = 2 := by
    have e : (y == x) = false := by rw [beq_eq_false_iff_ne]; exact fun z => hxy z.symm
    simp [List.eraseDups_cons, e]
  have c1 : (X.env.kindOf x == some .local && px.line == px.line) = true := by rw [kx]; simp
  have c2 : (X.env.kindOf y == some .local && py.line == px.line) = true := by rw [ky, hl]; rfl
  unfold swappedStores
  dsimp only [List.head?_cons, Option.map_some, Option.getD_some, Expr.pos]
  refine (if_neg fun z => ?_).trans ((if_neg fun z => ?_).trans ?_)
  · rw [hb] at z; cases z
  · exact Bool.noConfusion (z.symm.trans st)
  · simp only [List.filterMap_cons, List.filterMap_nil, c1, c2, if_true]
    refine (if_neg fun z => ?_).trans ((if_neg fun z => ?_).trans ((if_neg fun z => ?_).trans rfl))
    · rw [hd] at z; cases z
    · rw [List.all_cons, List.all_cons, List.all_nil, Bool.and_true, hf] at z; cases z
    · rw [List.all_cons, List.all_cons, List.all_nil, Bool.and_true, hc] at z; cases z
end

/-! ### targets -/
def ckT (t : Tn) (N : List Str) : Ev.T → (Sc → Expr → Bool) × (Sc → List Expr → Bool)
  | .nm i _ => (fun s e => match e with | .Name x _ => decide (N[i]? = some x) && stoB s x | _ => false, fun _ _ => false)
  | .ix j a => (fun s e => match e with | .Subscript (.Name x _) y _ => varB N s j x && (noSlice y && (ck t N a).e s y) | _ => false, fun _ _ => false)
  | .nil => (fun _ _ => false, fun _ l => l.isEmpty)
  | .cons a b => (fun _ _ => false, fun s l => match l with | e :: es => (ckT t N a).1 s e && (ckT t N b).2 s es | [] => false)
  | .tup l => (fun s e => match e with | .Tuple es _ _ => (ckT t N l).2 s es | _ => false, fun _ _ => false)
section
variable {T : Tb} {t : Tn} {n : Nat} {N : List Str} {p : Par} {w : Nat}
theorem ckT_ok (K : TnOk T t n p) : ∀ (g : Ev.T), (∀ {X : Cx} {W : WX} {s : Sc} {e : Expr}, XOk T W X → InX N s X → Room n X.A → (ckT t N g).1 s e = true → ST T W X p e g) ∧ (∀ {X : Cx} {W : WX} {s : Sc} {l : List Expr}, XOk T W X → InX N s X → Room n X.A → (ckT t N g).2 s l = true → STs T W X p l g) := fun g => by
  induction g with
  | nm i own =>
    refine ⟨fun {X W s e} O R r h => ?_, fun _ _ _ h => ff h⟩
    dsimp only [ckT] at h; split at h
    · simp only [Bool.and_eq_true, decide_eq_true_eq] at h
      obtain ⟨h1, h2⟩ := R.sto h.2
      exact st_nm (by rw [R.N]; exact R.nd) (by rw [R.N]; exact h.1) h1 h2
    · cases h
  | ix j a =>
    refine ⟨fun {X W s e} O R r h => ?_, fun _ _ _ h => ff h⟩
    dsimp only [ckT] at h; split at h
    · simp only [Bool.and_eq_true] at h
      obtain ⟨k1, k2, k3, k4⟩ := R.var h.1
      exact st_ix O k1 k2 k3 k4 ((ck_ok K a).e O R r h.2.2) h.2.1
    · cases h
  | nil =>
    refine ⟨fun _ _ _ h => ff h, fun {X W s l} O R r h => ?_⟩
    cases l with
    | nil => exact sts_nil
    | cons _ _ => cases h
  | cons a b iha ihb =>
    refine ⟨fun _ _ _ h => ff h, fun {X W s l} O R r h => ?_⟩
    cases l with
    | nil => cases h
    | cons e es =>
      unfold ckT at h; simp only [Bool.and_eq_true] at h
      exact sts_cons (iha.1 O R r h.1) (ihb.2 O R r h.2)
  | tup l ih =>
    refine ⟨fun {X W s e} O R r h => ?_, fun _ _ _ h => ff h⟩
    dsimp only [ckT] at h; split at h
    · exact st_tup O (ih.2 O R r h)
    · cases h

/-! ### statements -/
structure CS where
  s : Sc → Stmt → Bool
  b : Sc → List Stmt → Bool
structure SoundS (T : Tb) (n : Nat) (N : List Str) (p : Par) (w : Nat) (A : Ev.S) (c : CS) : Prop where
  s : ∀ {X : Cx} {W : WX} {s : Sc} {x : Stmt}, XOk T W X → InX N s X → Room n X.A → PassesOwn (model X.prog X.w) X.A X.env X.xe → s.sc.kind = .function → c.s s x = true → SS T W X p w x A
  b : ∀ {X : Cx} {W : WX} {s : Sc} {x : List Stmt}, XOk T W X → InX N s X → Room n X.A → PassesOwn (model X.prog X.w) X.A X.env X.xe → s.sc.kind = .function → c.b s x = true → SB T W X p w x A
def csNo : CS := ⟨fun _ _ => false, fun _ _ => false⟩
def csOne (f : Sc → Stmt → Bool) : CS := ⟨f, fun s l => match l with | [x] => f s x | _ => false⟩
theorem oNo {A : Ev.S} : SoundS T n N p w A csNo := ⟨fun _ _ _ _ _ h => ff h, fun _ _ _ _ _ h => ff h⟩
theorem oOne {A : Ev.S} {f : Sc → Stmt → Bool} (hf : ∀ {X : Cx} {W : WX} {s : Sc} {x : Stmt}, XOk T W X → InX N s X → Room n X.A → PassesOwn (model X.prog X.w) X.A X.env X.xe → s.sc.kind = .function → f s x = true → SS T W X p w x A) : SoundS T n N p w A (csOne f) :=
  ⟨hf, fun {X W s x} O R r P k h => by
    match x, h with
    | [x], h => exact sb_one (hf O R r P k h)⟩
def csSkip : CS := ⟨fun _ x => match x with | .Pass _ => true | _ => false, fun _ l => match l with | [] => true | [.Pass _] => true | _ => false⟩
theorem oSkip : SoundS T n N p w .skip csSkip :=
  ⟨fun {X W s x} O R r P k h => by
    dsimp only [csSkip] at h; split at h
    · exact ss_pass
    · exact ff h
    , fun {X W s x} O R r P k h => by
    dsimp only [csSkip] at h; split at h
    · exact sb_nil
    · exact sb_one ss_pass
    · cases h⟩
def csSeq (a b : CS) : CS := ⟨fun _ _ => false, fun s l => match l with | x :: r => a.s s x && b.b s r | [] => false⟩
theorem oSeq {A B : Ev.S} {a b : CS} (ha : SoundS T n N p w A a) (hb : SoundS T n N p w B b) : SoundS T n N p w (.seq A B) (csSeq a b) :=
  ⟨fun _ _ _ _ _ h => ff h, fun {X W s x} O R r P k h => by
    cases x with
    | nil => cases h
    | cons x l =>
      simp only [csSeq, Bool.and_eq_true] at h
      exact sb_cons (ha.s O R r P k h.1) (hb.b O R r P k h.2)⟩
def csEx (a : CK) : CS := csOne fun s x => match x with | .Expr e _ => noComp e && a.e s e | _ => false
theorem oEx {A : Ev.E} {a : CK} (ha : Sound T n N p A a) : SoundS T n N p w (.ex A) (csEx a) := oOne fun {X W s x} O R r P k h => by
  split at h
  · rw [Bool.and_eq_true] at h
    exact ss_ex (ha.e O R r h.2) (sw_no h.1)
  · cases h
def isLc : Ev.E → Bool
  | .lc _ _ _ _ _ => true
  | .lc2 _ _ _ _ _ _ _ _ _ => true
  | _ => false
def csAsg (t : Tn) (N : List Str) (g : Ev.T) (A : Ev.E) : CS := csOne fun s x => match x with
  | .Assign [tg] e _ => (match g, tg with
    | .nm i _, .Name x px => decide (N[i]? = some x) && (stoB s x && ((ck t N A).e s e && (noComp e || (cellB s x || (isLc A && (locB s x && swB x px e))))))
    | .nm _ _, _ => false
    | g, tg => isTup tg && (notTT tg e && ((ckT t N g).1 s tg && (ck t N A).e s e)))
  | _ => false
theorem oAsg {g : Ev.T} {A : Ev.E} (K : TnOk T t n p) : SoundS T n N p w (.asg g A) (csAsg t N g A) := oOne fun {X W s x} O R r P kf h => by
  split at h
  · rename_i tg e pos
    split at h
    · rename_i i own x px
      simp only [Bool.and_eq_true, decide_eq_true_eq, Bool.or_eq_true] at h
      obtain ⟨h1, h2, h3, h4⟩ := h
      obtain ⟨k1, k2⟩ := R.sto h2
      have nd : X.N.Nodup := by rw [R.N]; exact R.nd
      have hi : X.N[i]? = some x := by rw [R.N]; exact h1
      rcases h4 with h4 | h4 | ⟨h4, h5, h6⟩
      · exact ss_asg nd hi k1 k2 (sw_no h4) ((ck_ok K A).e O R r h3)
      · exact ss_asg nd hi k1 k2 (sw_cell R h4) ((ck_ok K A).e O R r h3)
      · have hl := R.loc h5
        have hk : X.env.scope.kind = .function := by rw [R.sc]; exact kf
        unfold swB at h6
        split at h6
        · rename_i elt gs scope cpos
          rw [Bool.and_eq_true, Bool.not_eq_true'] at h6
          have sw := sw_true (elt := elt) (gs := gs) (scope := scope) (pos := cpos) (py := px) (l := pos.line) hk hl h6.1 h6.2
          unfold isLc at h4
          split at h4
          · rename_i g it fs el vs
            unfold ck ckLc ckEx at h3
            dsimp only at h3
            split at h3
            · rename_i elt' tg iter ifs scope' q heq
              cases heq
              simp only [Bool.and_eq_true] at h3
              obtain ⟨h1, h2, h3, h4, h5, h6⟩ := h3
              exact ss_asgC (lc_set O nd hi hl sw ((ck_ok K it).i O R r h3) (by rw [R.N, R.sc]; exact blkOk_by h1) (ownOf_snd vs) (inB_ok h2) (fun sh H C cl fp => (ckG_ok g).1 (O.blk sh H _ _ fp) (R.blk sh H _ cl C fp) h4)
                (fun sh H C cl fp => (ck_ok K fs).f (O.blk sh H _ _ fp) (R.blk sh H _ cl C fp) r h5) (fun sh H C cl fp => (ck_ok K el).e (O.blk sh H _ _ fp) (R.blk sh H _ cl C fp) r h6))
            · cases h3
          · rename_i g it fs g1 it1 fs1 el vs vs1
            unfold ck ckLc2 ckEx at h3
            dsimp only at h3
            split at h3
            · rename_i elt' tg iter ifs tg1 iter1 ifs1 scope' q heq
              cases heq
              simp only [Bool.and_eq_true] at h3
              obtain ⟨h1, h2, h3, h4, h5, h6, h7, h8, h9, h10, h11, h12⟩ := h3
              exact ss_asgC (lc2_set O nd hi hl sw ((ck_ok K it).i O R r h6) (by rw [R.N, R.sc]; exact blkOk_by h1) (ownOf_snd vs) (inB_ok h2) (inB_ok h3) (inB_ok h4) h5 (fun sh H C cl fp => (ckG_ok g).1 (O.blk sh H _ _ fp) (R.blk sh H _ cl C fp) h7)
                (fun sh H C cl fp => (ck_ok K fs).f (O.blk sh H _ _ fp) (R.blk sh H _ cl C fp) r h8) (fun sh H C cl fp => (ck_ok K it1).i (O.blk sh H _ _ fp) (R.blk sh H _ cl C fp) r h9) (fun sh H C cl fp => (ckG_ok g1).1 (O.blk sh H _ _ fp) (R.blk sh H _ cl C fp) h10)
                (fun sh H C cl fp => (ck_ok K fs1).f (O.blk sh H _ _ fp) (R.blk sh H _ cl C fp) r h11) (fun sh H C cl fp => (ck_ok K el).e (O.blk sh H _ _ fp) (R.blk sh H _ cl C fp) r h12))
            · cases h3
          · cases h4
        · cases h6
    · cases h
    · rename_i nn _
      simp only [Bool.and_eq_true] at h
      obtain ⟨h1, h2, h3, h4⟩ := h
      exact ss_asgT ((ckT_ok K g).1 O R r h3) ((ck_ok K A).e O R r h4) (fun i o z => by subst z; cases tg <;> first | exact nn _ _ _ _ rfl rfl | exact nn _ _ rfl) (sw_tup h1) (ss_none h2)
  · cases h
def csPar (N : List Str) (g : Ev.G) (a : CK) : CS := csOne fun s x => match g, x with
  | .cons (.nm i _) (.cons (.nm j _) .nil), .Assign [.Tuple [.Name x px, .Name y py] _ _] (.Tuple [e, f] _ _) _ =>
    decide (N[i]? = some x) && (decide (N[j]? = some y) && (decide (i ≠ j) && (locB s x && (locB s y && (a.a s [e, f] && ((py.line == px.line) && (noStar e && (noStar f && (!(foldedForSure 8 e && foldedForSure 8 f) && !(constantsAlone 8 e && constantsAlone 8 f))))))))))
  | _, _ => false
theorem oPar {g : Ev.G} {A : Ev.E} {a : CK} (ha : Sound T n N p A a) : SoundS T n N p w (.par g A) (csPar N g a) := oOne fun {X W s x} O R r P k h => by
  split at h
  · simp only [Bool.and_eq_true, decide_eq_true_eq, Bool.not_eq_true'] at h
    obtain ⟨h1, h2, h3, h4, h5, h6, h7, h8, h9, h10, h11⟩ := h
    have nd : X.N.Nodup := by rw [R.N]; exact R.nd
    have hi := (show X.N = N from R.N) ▸ h1
    rename_i i own j own2 x px y py kt pt e f k2 pt2 pos
    have hi : X.N[i]? = some x := by rw [R.N]; exact h1
    have hj : X.N[j]? = some y := by rw [R.N]; exact h2
    have hxy : x ≠ y := fun z => by
      subst z
      exact h3 ((List.getElem?_inj (List.getElem?_eq_some_iff.mp hi).1 nd).mp (hi.trans hj.symm))
    exact ss_par O nd hi hj h3 (R.loc h4) (R.loc h5) (ha.a O R r h6) (par_sw (by rw [R.sc]; exact k) (R.loc h4) (R.loc h5) hxy h7 h8 h9 h10 h11) (sw_tup rfl)
  · cases h
def csIte (c : CK) (a b : CS) : CS := csOne fun s x => match x with | .If e l m _ => c.e s e && (a.b s l && b.b s m) | _ => false
theorem oIte {C : Ev.E} {c : CK} {A B : Ev.S} {a b : CS} (hc : Sound T n N p C c) (ha : SoundS T n N p w A a) (hb : SoundS T n N p w B b) : SoundS T n N p w (.ite C A B) (csIte c a b) := oOne fun {X W s x} O R r P k h => by
  split at h
  · simp only [Bool.and_eq_true] at h
    exact ss_ite (hc.e O R r h.1) (ha.b O R r P k h.2.1) (hb.b O R r P k h.2.2)
  · cases h
def csLoop (N : List Str) (g : Ev.G) (it : CK) (b : CS) : CS := csOne fun s x => match x with | .For tg iter body [] _ => it.i s tg iter && ((ckG N g).1 s tg && b.b s body) | _ => false
theorem oLoop {g : Ev.G} {C : Ev.E} {c : CK} {B : Ev.S} {b : CS} (hc : Sound T n N p C c) (hb : SoundS T n N p w B b) : SoundS T n N p w (.loop g C B) (csLoop N g c b) := oOne fun {X W s x} O R r P k h => by
  split at h
  · simp only [Bool.and_eq_true] at h
    exact ss_for O P (hc.i O R r h.1) ((ckG_ok g).1 O R h.2.1) (hb.b O R r P k h.2.2)
  · cases h
def csWh (c : CK) (b : CS) : CS := csOne fun s x => match x with | .While e body [] _ => c.e s e && b.b s body | _ => false
theorem oWh {C : Ev.E} {c : CK} {B : Ev.S} {b : CS} (hc : Sound T n N p C c) (hb : SoundS T n N p w B b) : SoundS T n N p w (.wh C B) (csWh c b) := oOne fun {X W s x} O R r P k h => by
  split at h
  · simp only [Bool.and_eq_true] at h
    exact ss_wh P (hc.e O R r h.1) (hb.b O R r P k h.2)
  · cases h
def csRet (c : CK) : CS := csOne fun s x => match x with | .Return (some e) _ => c.e s e | _ => false
theorem oRet {C : Ev.E} {c : CK} (hc : Sound T n N p C c) : SoundS T n N p w (.ret C) (csRet c) := oOne fun {X W s x} O R r P k h => by
  split at h
  · exact ss_ret (hc.e O R r h)
  · cases h
def csRetN : CS := csOne fun s x => match x with | .Return none _ => true | _ => false
theorem oRetN : SoundS T n N p w .retN csRetN := oOne fun {X W s x} O R r P k h => by
  split at h
  · exact ss_retN
  · cases h
def csBrk : CS := csOne fun s x => match x with | .Break _ => true | _ => false
theorem oBrk : SoundS T n N p w .brk csBrk := oOne fun {X W s x} O R r P k h => by
  split at h
  · exact ss_brk
  · cases h
def csCont : CS := csOne fun s x => match x with | .Continue _ => true | _ => false
theorem oCont : SoundS T n N p w .cont csCont := oOne fun {X W s x} O R r P k h => by
  split at h
  · exact ss_cont
  · cases h
def csNever : CS := csOne fun _ _ => true
theorem oNever : SoundS T n N p w .never csNever := oOne fun _ _ _ _ _ _ => ss_never
def cks (t : Tn) (N : List Str) : Ev.S → CS
  | .skip => csSkip
  | .seq a b => csSeq (cks t N a) (cks t N b)
  | .ex e => csEx (ck t N e)
  | .asg g e => csAsg t N g e
  | .par g e => csPar N g (ck t N e)
  | .ite c a b => csIte (ck t N c) (cks t N a) (cks t N b)
  | .loop g it b => csLoop N g (ck t N it) (cks t N b)
  | .wh c b => csWh (ck t N c) (cks t N b)
  | .ret e => csRet (ck t N e)
  | .retN => csRetN
  | .brk => csBrk
  | .cont => csCont
  | .never => csNever
  | .raise _ _ => csNo
theorem cks_ok (K : TnOk T t n p) : ∀ A : Ev.S, SoundS T n N p w A (cks t N A) := fun A => by
  induction A with
  | skip => exact oSkip
  | seq a b iha ihb => exact oSeq iha ihb
  | ex e => exact oEx (ck_ok K e)
  | asg g e => exact oAsg K
  | par g e => exact oPar (ck_ok K e)
  | ite c a b iha ihb => exact oIte (ck_ok K c) iha ihb
  | loop g it b ih => exact oLoop (ck_ok K it) ih
  | wh c b ih => exact oWh (ck_ok K c) ih
  | ret e => exact oRet (ck_ok K e)
  | retN => exact oRetN
  | brk => exact oBrk
  | cont => exact oCont
  | never => exact oNever
  | raise _ _ => exact oNo
end
end Ev
end

section
set_option Elab.async false
set_option linter.all false
set_option maxRecDepth 100000
set_option maxHeartbeats 1000000
/-! Ev7: how a call binds, by place and by name. -/
namespace Ev
open PySem PySem.Spec L2
/-- parameters by position alone, no defaults -/
def plainArgs (p : Arguments) : Bool := p.posonlyargs.isEmpty && p.vararg.isNone && p.kwonlyargs.isEmpty && p.kwarg.isNone
theorem lookup_zip : ∀ {ps : List Str} {us : List Value}, ps.Nodup → us.length = ps.length → ∀ n ∈ ps, ((ps.zip us).lookup n).isSome = true
  | [], _, _, _, n, h => nomatch h
  | p :: ps, [], _, h, _, _ => by cases h
  | p :: ps, u :: us, nd, hl, n, h => by
    rw [List.zip_cons_cons, List.lookup_cons]
    cases e : (n == p) with
    | true => rfl
    | false =>
      simp only
      refine lookup_zip (List.nodup_cons.mp nd).2 (by simpa using hl) n ?_
      rcases List.mem_cons.mp h with z | z
      · rw [z] at e; simp at e
      · exact z
theorem fm_lookup : ∀ {ps : List Str} {us : List Value}, ps.Nodup → us.length = ps.length → ps.filterMap (fun n => ((ps.zip us).lookup n).map (n, ·)) = ps.zip us
  | [], [], _, _ => rfl
  | [], _ :: _, _, h => by cases h
  | p :: ps, [], _, h => by cases h
  | p :: ps, u :: us, nd, hl => by
    obtain ⟨n1, n2⟩ := List.nodup_cons.mp nd
    rw [List.zip_cons_cons, List.filterMap_cons, List.lookup_cons]
    simp only [beq_self_eq_true, Option.map_some]
    have e : ps.filterMap (fun n => (((p, u) :: ps.zip us).lookup n).map (n, ·)) = ps.filterMap (fun n => ((ps.zip us).lookup n).map (n, ·)) := by
      have go : ∀ l : List Str, (∀ n ∈ l, n ≠ p) → l.filterMap (fun n => (((p, u) :: ps.zip us).lookup n).map (n, ·)) = l.filterMap (fun n => ((ps.zip us).lookup n).map (n, ·)) := by
        intro l
        induction l with
        | nil => intro _; rfl
        | cons n l ih =>
          intro h
          have e : (n == p) = false := by rw [beq_eq_false_iff_ne]; exact h n List.mem_cons_self
          rw [List.filterMap_cons, List.filterMap_cons, List.lookup_cons, e, ih fun m hm => h m (List.mem_cons_of_mem _ hm)]
      exact go ps fun n hn z => n1 (z ▸ hn)
    rw [e, fm_lookup n2 (show us.length = ps.length by simpa using hl)]
theorem binds_plain {x qual : Str} {params : Arguments} {body : List Stmt} {scope : Scope} {kV doc pm : Value} {an : Option Addr} {cdv ct : Value} {ps : List Str} (hp : plainArgs params = true) (he : params.args.map (·.arg) = ps) (nd : ps.Nodup) {us : List Value} (hl : us.length = ps.length) :
    bindArgs (PySem.W.fnOf x qual params body scope .none kV doc pm an cdv ct) ⟨us, []⟩ = pure (ps.zip us) := by
  obtain ⟨po, as, va, ko, kd, kw, df⟩ := params
  unfold plainArgs at hp
  simp only [Bool.and_eq_true, List.isEmpty_iff, Option.isNone_iff_eq_none] at hp
  obtain ⟨⟨⟨rfl, rfl⟩, rfl⟩, rfl⟩ := hp
  dsimp only at he
  have hm : (ps.take ps.length).filter (fun n => ((ps.zip us).lookup n).isNone) = [] := by
    rw [List.take_length, List.filter_eq_nil_iff]
    intro n hn
    have := lookup_zip nd hl n hn
    cases e : (ps.zip us).lookup n with
    | none => rw [e] at this; cases this
    | some v => simp
  unfold bindArgs
  simp only [he, List.map_nil, List.nil_append, List.append_nil]
  have hg : (decide (us.length > ps.length) && (none : Option Arg).isNone) = false := by rw [hl]; simp
  have hd : ((none : Option (Array Value)).getD #[]).toList = [] := rfl
  have hp : ps.take (ps.length - (([] : List Value).drop (0 - ps.length)).length) = ps := by simp
  simp only [List.forIn_nil, pure_bind, show seqItems? Value.none = pure none from rfl, hg, hd, List.length_nil, List.drop_nil, Nat.sub_zero, hm, List.isEmpty_nil, List.drop_length, List.zip_nil_right, fm_lookup nd hl, Bool.not_true, Bool.false_eq_true, if_false, List.zip_nil_left]
/-! ### by names -/
def kwB (ps ks : List Str) (perm : List Nat) : Bool := decide (permD ks perm = some ps) && (decide ks.Nodup && (decide perm.Nodup && (ks.all (ps.contains ·))))
theorem forIn_kw {ps : List Str} {f : Str × Value → List (Str × Value) × List (Str × Value) → Sem (ForInStep (List (Str × Value) × List (Str × Value)))}
    (hf : ∀ k v s e, ps.contains k = true → (s.lookup k).isSome = false → f (k, v) (s, e) = pure (.yield (s ++ [(k, v)], e))) : ∀ (kw s e : List (Str × Value)), (∀ q ∈ kw, ps.contains q.1 = true) → (kw.map (·.1)).Nodup → (∀ q ∈ kw, (s.lookup q.1).isSome = false) →
    forIn kw (s, e) f = pure (s ++ kw, e)
  | [], s, e, _, _, _ => by rw [List.forIn_nil, List.append_nil]
  | (k, v) :: kw, s, e, h1, h2, h3 => by
    rw [List.map_cons, List.nodup_cons] at h2
    rw [List.forIn_cons, hf k v s e (h1 _ List.mem_cons_self) (h3 _ List.mem_cons_self), pure_bind]
    show forIn kw (s ++ [(k, v)], e) f = _
    rw [forIn_kw hf kw _ e (fun q hq => h1 q (List.mem_cons_of_mem _ hq)) h2.2 fun q hq => ?_, List.append_assoc]
    · rfl
    · have ne : (q.1 == k) = false := by
        rw [beq_eq_false_iff_ne]
        intro z
        exact h2.1 (List.mem_map.mpr ⟨q, hq, z⟩)
      have l : ∀ s : List (Str × Value), (s.lookup q.1).isSome = false → ((s ++ [(k, v)]).lookup q.1).isSome = false := by
        intro s
        induction s with
        | nil => intro _; rw [List.nil_append, List.lookup_cons, ne]; rfl
        | cons z s ih =>
          intro h
          rw [List.lookup_cons] at h
          rw [List.cons_append, List.lookup_cons]
          cases e : (q.1 == z.1) with
          | true => rw [e] at h; exact h
          | false => rw [e] at h; exact ih h
      exact l s (h3 q (List.mem_cons_of_mem _ hq))
theorem lookup_nodup : ∀ {ks : List Str} {ws : List Value} {i : Nat} {k : Str} {w : Value}, ks.Nodup → ks[i]? = some k → ws[i]? = some w → (ks.zip ws).lookup k = some w
  | [], _, _, _, _, _, h, _ => by simp at h
  | _ :: _, [], _, _, _, _, _, h => by simp at h
  | p :: ks, u :: ws, 0, k, w, nd, h1, h2 => by
    simp at h1 h2; subst h1; subst h2
    rw [List.zip_cons_cons, List.lookup_cons]
    simp
  | p :: ks, u :: ws, i + 1, k, w, nd, h1, h2 => by
    obtain ⟨n1, n2⟩ := List.nodup_cons.mp nd
    have h1' : ks[i]? = some k := by simpa using h1
    rw [List.zip_cons_cons, List.lookup_cons]
    have ne : (k == p) = false := by
      rw [beq_eq_false_iff_ne]
      intro z; subst z
      exact n1 (List.mem_of_getElem? h1')
    rw [ne]
    exact lookup_nodup n2 h1' (by simpa using h2)
theorem fm_perm {ks : List Str} {ws : List Value} (nd : ks.Nodup) : ∀ {perm : List Nat} {ps : List Str} {ws' : List Value}, permD ks perm = some ps → permD ws perm = some ws' → ps.filterMap (fun n => ((ks.zip ws).lookup n).map (n, ·)) = ps.zip ws' ∧ ∀ n ∈ ps, ((ks.zip ws).lookup n).isSome = true
  | [], ps, ws', h1, h2 => by
    cases h1; cases h2; exact ⟨rfl, fun _ h => nomatch h⟩
  | i :: perm, ps, ws', h1, h2 => by
    unfold permD at h1 h2
    cases e1 : ks[i]? with
    | none => rw [e1] at h1; cases h1
    | some k =>
      cases e2 : ws[i]? with
      | none => rw [e2] at h2; cases h2
      | some w =>
        cases e3 : permD ks perm with
        | none => rw [e1, e3] at h1; cases h1
        | some ps1 =>
          cases e4 : permD ws perm with
          | none => rw [e2, e4] at h2; cases h2
          | some ws1 =>
            rw [e1, e3] at h1; rw [e2, e4] at h2
            cases h1; cases h2
            obtain ⟨i1, i2⟩ := fm_perm nd e3 e4
            have l := lookup_nodup nd e1 e2
            refine ⟨?_, fun n hn => ?_⟩
            · rw [List.filterMap_cons, l, List.zip_cons_cons, i1]; rfl
            · rcases List.mem_cons.mp hn with z | z
              · rw [z, l]; rfl
              · exact i2 n z
theorem binds_kw {x qual : Str} {params : Arguments} {body : List Stmt} {scope : Scope} {kV doc pm : Value} {an : Option Addr} {cdv ct : Value} {ps ks : List Str} {perm : List Nat} (hp : plainArgs params = true) (he : params.args.map (·.arg) = ps) (hk : kwB ps ks perm = true) {ws ws' : List Value} (hl : ws.length = ks.length) (hw : permD ws perm = some ws') :
    bindArgs (PySem.W.fnOf x qual params body scope .none kV doc pm an cdv ct) ⟨[], ks.zip ws⟩ = pure (ps.zip ws') := by
  obtain ⟨po, as, va, ko, kd, kw, df⟩ := params
  unfold plainArgs at hp
  simp only [Bool.and_eq_true, List.isEmpty_iff, Option.isNone_iff_eq_none] at hp
  obtain ⟨⟨⟨rfl, rfl⟩, rfl⟩, rfl⟩ := hp
  dsimp only at he
  unfold kwB at hk
  simp only [Bool.and_eq_true, decide_eq_true_eq] at hk
  obtain ⟨k1, k2, k3, k4⟩ := hk
  obtain ⟨f1, f2⟩ := fm_perm k2 k1 hw
  have hm : ps.filter (fun n => ((ks.zip ws).lookup n).isNone) = [] := by
    rw [List.filter_eq_nil_iff]
    intro n hn
    have := f2 n hn
    cases e : (ks.zip ws).lookup n with
    | none => rw [e] at this; cases this
    | some v => simp
  unfold bindArgs
  simp only [he, List.map_nil, List.nil_append, List.append_nil, List.zip_nil_right]
  rw [forIn_kw (ps := ps) (fun k v s e h1 h2 => ?_) (ks.zip ws) [] [] (fun q hq => ?_) (by rw [zip_fst hl.symm]; exact k2) (fun q hq => rfl)]
  · have hg : (decide (0 > ps.length) && (none : Option Arg).isNone) = false := by simp
    have hd : ((none : Option (Array Value)).getD #[]).toList = [] := rfl
    simp only [List.forIn_nil, pure_bind, show seqItems? Value.none = pure none from rfl, hg, hd, List.length_nil, List.drop_nil, Nat.sub_zero, List.nil_append, List.take_length, hm, List.isEmpty_nil, List.drop_length, List.zip_nil_right, f1, Bool.not_true, Bool.false_eq_true, if_false, List.zip_nil_left]
  · simp only [h1, h2, Bool.true_or, if_true, Bool.false_eq_true, if_false]
  · exact List.all_eq_true.mp k4 q.1 (List.of_mem_zip (show (q.1, q.2) ∈ ks.zip ws from hq)).1
section
variable {K : PySem.W.Frag} {x qual : Str} {params : Arguments} {body : List Stmt} {scope : Scope} {kws : List (Str × V)} {f : Addr} {fd : FuncData} {ps : List Str}
theorem fun_binds (F : FunD K x qual params body scope [] kws f fd) (hp : plainArgs params = true) (he : params.args.map (·.arg) = ps) (nd : ps.Nodup) : Binds K fd ps [] :=
  F.bindsN fun kV doc pm an cdv ct us hl => binds_plain hp he nd hl
theorem fun_kw (F : FunD K x qual params body scope [] kws f fd) (hp : plainArgs params = true) (he : params.args.map (·.arg) = ps) {ks : List Str} {perm : List Nat} (hk : kwB ps ks perm = true) (s : Shared) (ws ws' : List Value) (hl : ws.length = ks.length) (hw : permD ws perm = some ws') : BindsTo s fd ⟨[], ks.zip ws⟩ (ps.zip ws') := by
  obtain ⟨oc, od, dV, kV, doc, pm, an, cdv, ct, osl, rfl, lk, hcd, hD, hK⟩ := F.ex
  rcases hD with ⟨_, rfl⟩ | ⟨e, _⟩
  · exact .of_eq (binds_kw hp he hk hl hw)
  · exact absurd rfl e
end
end Ev
end

section
set_option Elab.async false
set_option linter.all false
set_option maxRecDepth 100000
set_option maxHeartbeats 1000000
/-! Ev8: all defs of a text at once; the law's call. -/
namespace Ev
open PySem PySem.Spec PyProof.Rows L2

/-! ### defs -/
structure DefOk (T : Tb) (t : Tn) (i : Nat) (x : Str) : Prop where
  ex : ∃ (f : Addr) (fd : FuncData) (ps N : List Str) (x' qual : Str) (params : Arguments) (body : List Stmt) (scope : Scope) (fdE : Fn),
    T.pr.fns[i]? = some fdE ∧ FunD T.K x' qual params body scope [] [] f fd ∧ FnScope N ps scope ∧ fdE.many = N.length ∧ fdE.args = ps.length ∧
    (cks t N fdE.body).b ⟨scope, fun _ => true⟩ body = true ∧ T.mg x = some (.ref f) ∧ Binds T.K fd ps [] ∧
    ∀ (ks : List Str) (perm : List Nat), (i, ks, perm) ∈ t.kws → perm.Nodup ∧ ∀ (s : Shared) (ws ws' : List Value), T.K.In s.heap → ws'.length = ps.length → permD ws perm = some ws' → ws.length = ks.length → BindsTo s fd ⟨[], ks.zip ws⟩ (ps.zip ws')
theorem tn_ok {T : Tb} {t : Tn} (hrep : T.pr.rep = repD) (no : ∀ x, t.nones.contains x = true → T.mg x = none)
    (gl : ∀ (i : Nat) (x : Str), t.globs[i]? = some x → ∃ v u d, T.mg x = some u ∧ RelV v u ∧ T.pr.glob[i]? = some d ∧ Rp T.fa T.K T.G0 v d) (df : ∀ (i : Nat) (x : Str), (i, x) ∈ t.fns → DefOk T t i x) :
    ∀ n : Nat, TnOk T t n ⟨callN T.pr n, T.pr.glob, T.pr.rep⟩ := fun n => by
  induction n with
  | zero =>
    refine ⟨rfl, no, gl, fun i x h => ?_⟩
    obtain ⟨f, fd, ps, N, x', qual, params, body, scope, fdE, h1, h2, h3, h4, h5, h6, h7, h8, h9⟩ := (df i x h).ex
    have no : ∀ vs H Q E, ¬ spEv T (callN T.pr 0) i vs H Q E := fun vs H Q E ⟨G, as, _, _, z⟩ => z
    exact ⟨f, fd, ps, ⟨fun vs H Q E z => (no vs H Q E z).elim, fun A outer s H args us vs Q E _ _ _ _ _ z => (no vs H Q E z).elim⟩, h7, h2.kp, h8, h9⟩
  | succ n ih =>
    refine ⟨rfl, no, gl, fun i x h => ?_⟩
    obtain ⟨f, fd, ps, N, x', qual, params, body, scope, fdE, h1, h2, h3, h4, h5, h6, h7, h8, h9⟩ := (df i x h).ex
    refine ⟨f, fd, ps, fn_ev (k := 0) h1 h2 h3 h4 h5 hrep fun X W O hN hs hf r P => ?_, h7, h2.kp, h8, h9⟩
    exact (cks_ok ih fdE.body).b O ⟨h3.nd, hN, hs, fun x _ => hf x⟩ r P h3.kind h6
/-- a def of a text: its number, where and what it is, its names, its parameters -/
structure Dd where
  i : Nat
  d : He.DefD
  N : List Str
  ps : List Str
def scopeB (N ps : List Str) (sc : Scope) : Bool :=
  (match sc.kind with | .function => true | _ => false) && (!sc.isCoroutine && (!sc.isGenerator && (decide N.Nodup && (decide (N.take ps.length = ps) &&
    ((ps.all fun x => match sc.names.lookup x with | some .local => true | some .cell => true | _ => false) && (sc.names.all fun y => match y.2 with | .free => false | _ => true))))))
theorem scopeB_ok {N ps : List Str} {sc : Scope} (h : scopeB N ps sc = true) : FnScope N ps sc := by
  unfold scopeB at h
  simp only [Bool.and_eq_true, Bool.not_eq_true', decide_eq_true_eq, List.all_eq_true] at h
  obtain ⟨h1, h2, h3, h4, h5, h6, h7⟩ := h
  refine ⟨?_, h2, h3, h4, h5, fun x hx => ?_, fun y hy e => ?_⟩
  · split at h1
    · assumption
    · cases h1
  · have q := h6 x hx
    split at q
    · exact .inl (by assumption)
    · exact .inr (by assumption)
    · cases q
  · have q := h7 y hy
    rw [e] at q
    cases q
def defC (t : Tn) (fns : List Fn) (z : Dd) : Bool := match fns[z.i]? with
  | some fdE => scopeB z.N z.ps z.d.scope && (fdE.many == z.N.length && (fdE.args == z.ps.length && (plainArgs z.d.params && (decide (z.d.params.args.map (·.arg) = z.ps) &&
      ((cks t z.N fdE.body).b ⟨z.d.scope, fun _ => true⟩ z.d.body && (t.kws.all fun k => k.1 != z.i || kwB z.ps k.2.1 k.2.2))))))
  | none => false
theorem defC_ok {T : Tb} {t : Tn} {z : Dd} (h : defC t T.pr.fns z = true) {f : Addr} {fd : FuncData} (F : FunD T.K z.d.name z.d.qual z.d.params z.d.body z.d.scope [] [] f fd) (hm : T.mg z.d.name = some (.ref f)) : DefOk T t z.i z.d.name := by
  unfold defC at h
  split at h
  · rename_i fdE e
    simp only [Bool.and_eq_true, beq_iff_eq, decide_eq_true_eq] at h
    obtain ⟨h1, h2, h3, h4, h5, h6, h7⟩ := h
    have S := scopeB_ok h1
    have nd : z.ps.Nodup := by rw [← S.pre]; exact (List.take_sublist _ _).nodup S.nd
    refine ⟨f, fd, z.ps, z.N, _, _, _, _, _, fdE, e, F, S, h2, h3, h6, hm, fun_binds F h4 h5 nd, fun ks perm hk => ?_⟩
    have q := List.all_eq_true.mp h7 _ hk
    simp only [bne_self_eq_false, Bool.false_or] at q
    have q' := q
    unfold kwB at q'
    simp only [Bool.and_eq_true, decide_eq_true_eq] at q'
    exact ⟨q'.2.2.1, fun s ws ws' _ _ hw hl => fun_kw F h4 h5 q s ws ws' hl hw⟩
  · cases h

/-! ### constants of the top -/
mutual
/-- what stands at the top is this -/
def conB (K : PySem.W.Frag) (fa : Nat → Option Addr) : D → Value → Bool
  | .non, .none => true
  | .bl b, .bool c => b == c
  | .int i, .int j _ => decide (i = j)
  | .str x, .str y _ => decide (x = y)
  | .fn i, .ref a => decide (fa i = some a)
  | .ktp ds, .ref a => (match K.lookup a with
    | some ⟨.type c, _, .seq its _, _⟩ => decide (c = "tuple") && (decide (its.size ≤ sizeLine) && conAll K fa ds its.toList)
    | _ => false)
  | _, _ => false
def conAll (K : PySem.W.Frag) (fa : Nat → Option Addr) : List D → List Value → Bool
  | [], [] => true
  | d :: ds, u :: us => conB K fa d u && conAll K fa ds us
  | _, _ => false
end
mutual
theorem conB_ok {K : PySem.W.Frag} {fa : Nat → Option Addr} {G : Hp} : ∀ {d : D} {u : Value}, conB K fa d u = true → ∃ v, RelV v u ∧ Rp fa K G v d
  | .non, u, h => by
    cases u <;> first | exact ⟨.non, rfl, .non⟩ | (unfold conB at h; cases h)
  | .bl b, u, h => by
    cases u with
    | bool c =>
      unfold conB at h
      cases eq_of_beq h
      exact ⟨.bl b, rfl, .bl b⟩
    | _ => unfold conB at h; cases h
  | .int i, u, h => by
    cases u with
    | int j t =>
      unfold conB at h
      cases of_decide_eq_true h
      exact ⟨.int i, ⟨t, rfl⟩, .int i⟩
    | _ => unfold conB at h; cases h
  | .str x, u, h => by
    cases u with
    | str j t =>
      unfold conB at h
      cases of_decide_eq_true h
      exact ⟨.str x, ⟨t, rfl⟩, .str x⟩
    | _ => unfold conB at h; cases h
  | .fn i, u, h => by
    cases u with
    | ref a =>
      unfold conB at h
      exact ⟨.ref a, rfl, .fn (of_decide_eq_true h)⟩
    | _ => unfold conB at h; cases h
  | .ktp ds, u, h => by
    cases u with
    | ref a =>
      unfold conB at h
      split at h
      · rename_i c od its n sl e
        simp only [Bool.and_eq_true, decide_eq_true_eq] at h
        obtain ⟨h1, h2, h3⟩ := h
        obtain ⟨vs, r1, r2⟩ := conAll_ok (G := G) h3
        exact ⟨.ref a, rfl, .ktp ⟨_, its, n, e, by rw [h1], rfl, h2, r1⟩ r2⟩
      · cases h
    | _ => unfold conB at h; cases h
  | .tup _, u, h => by cases u <;> (unfold conB at h; cases h)
  | .lst _, u, h => by cases u <;> (unfold conB at h; cases h)
  | .dct _ _, u, h => by cases u <;> (unfold conB at h; cases h)
theorem conAll_ok {K : PySem.W.Frag} {fa : Nat → Option Addr} {G : Hp} : ∀ {ds : List D} {us : List Value}, conAll K fa ds us = true → ∃ vs, Vals vs us ∧ RpA fa K G vs ds
  | [], [], _ => ⟨[], .nil, .nil⟩
  | [], _ :: _, h => by unfold conAll at h; cases h
  | _ :: _, [], h => by unfold conAll at h; cases h
  | d :: ds, u :: us, h => by
    unfold conAll at h
    rw [Bool.and_eq_true] at h
    obtain ⟨v, r1, r2⟩ := conB_ok (G := G) h.1
    obtain ⟨vs, q1, q2⟩ := conAll_ok (G := G) h.2
    exact ⟨v :: vs, .cons r1 q1, .cons r2 q2⟩
end
/-- where the defs stand, by their numbers -/
def faOf (K : PySem.W.Frag) (l : List (Nat × Str)) (i : Nat) : Option Addr := (l.lookup i).map (He.ga K)
def conF (l : List (Nat × Str)) (K : PySem.W.Frag) (c : Str × D) : Bool := match PySem.W.nsIn K mainGlobals c.1 with
  | some (some u) => conB K (faOf K l) c.2 u
  | _ => false
theorem conF_ok {l : List (Nat × Str)} {K : PySem.W.Frag} {h : Heap} {mg : Str → Option Value} {G : Hp} (X : K.In h) (Gm : h.Ns mainGlobals mg) {c : Str × D} (q : conF l K c = true) : ∃ v u, mg c.1 = some u ∧ RelV v u ∧ Rp (faOf K l) K G v c.2 := by
  unfold conF at q
  split at q
  · rename_i u e
    obtain ⟨v, r1, r2⟩ := conB_ok (G := G) q
    exact ⟨v, u, PySem.W.mg_of X Gm e, r1, r2⟩
  · cases q

/-! ### the Hook -/
abbrev AlC : Type := Bool × He.AlD
def obsC (l : List (Nat × Str)) (cs : List (Str × D)) (fa : List He.Fa) (fn : List He.DefD) (K : PySem.W.Frag) : AlC := (cs.all (conF l K), He.obsD fa fn K)
def SaysC (l : List (Nat × Str)) (cs : List (Str × D)) (fa : List He.Fa) (fn : List He.DefD) (K : PySem.W.Frag) : Prop := obsC l cs fa fn K = (true, He.valD fn)
def notList (p : Addr × Obj) : Bool := match p.2.cls with
  | .type c => !decide (c = "list")
  | _ => true
/-- a part of the heap without its lists -/
def frN (g : Addr → Option Obj) (as : List Addr) : PySem.W.Frag := (He.frG g as).filter notList
theorem mem_lookup : ∀ {l : List (Addr × Obj)} {b : Addr} {o : Obj}, l.lookup b = some o → (b, o) ∈ l
  | [], _, _, h => by cases h
  | (c, q) :: l, b, o, h => by
    rw [List.lookup_cons] at h
    cases e : (b == c) with
    | true =>
      rw [e] at h
      cases h
      rw [eq_of_beq e]
      exact List.mem_cons_self
    | false => rw [e] at h; exact List.mem_cons_of_mem _ (mem_lookup h)
theorem frN_in {as : List Addr} {h : Heap} : (frN h.get? as).In h := fun b o e => by
  have m := (List.mem_filter.mp (mem_lookup e)).1
  unfold He.frG at m
  obtain ⟨c, _, z⟩ := List.mem_filterMap.mp m
  obtain ⟨q, e1, e2⟩ := Option.map_eq_some_iff.mp z
  cases e2
  exact e1
def NoList (K : PySem.W.Frag) : Prop := ∀ (b : Addr) (o : Obj), K.lookup b = some o → o.cls ≠ .type "list"
theorem frN_no {g : Addr → Option Obj} {as : List Addr} : NoList (frN g as) := fun b o e z => by
  have m := (List.mem_filter.mp (mem_lookup e)).2
  unfold notList at m
  rw [z] at m
  exact absurd m (by decide)
def obsCG (n : Nat) (l : List (Nat × Str)) (cs : List (Str × D)) (fa : List He.Fa) (fn : List He.DefD) (g : Addr → Option Obj) : AlC := obsC l cs fa fn (frN g (He.asD g n))
def hookC (n : Nat) (l : List (Nat × Str)) (cs : List (Str × D)) (fa : List He.Fa) (fn : List He.DefD) : PySem.W.Hook where
  α := AlC
  obs := fun s => obsCG n l cs fa fn s.heap.get?
  val := fun _ => (true, He.valD fn)
  says := fun _ h => ∃ K : PySem.W.Frag, K.In h ∧ NoList K ∧ SaysC l cs fa fn K
  of := fun _ _ e => ⟨_, frN_in, frN_no, e⟩
  keeps := fun _ _ _ ⟨K, k, nl, c⟩ m => ⟨K, PySem.W.Frag.In.keeps k m, nl, c⟩
theorem obsCG_eq {n : Nat} {l : List (Nat × Str)} {cs : List (Str × D)} {fa : List He.Fa} {fn : List He.DefD} {g : Addr → Option Obj} {s : Shared} (h : ∀ a, g a = s.heap.get? a) : obsCG n l cs fa fn g = (hookC n l cs fa fn).obs s := by
  obtain rfl : g = s.heap.get? := funext h
  rfl
theorem SaysC.con {l : List (Nat × Str)} {cs : List (Str × D)} {fa : List He.Fa} {fn : List He.DefD} {K : PySem.W.Frag} (c : SaysC l cs fa fn K) : ∀ z ∈ cs, conF l K z = true := List.all_eq_true.mp (congrArg (fun z : AlC => z.1) c)
theorem SaysC.old {l : List (Nat × Str)} {cs : List (Str × D)} {fa : List He.Fa} {fn : List He.DefD} {K : PySem.W.Frag} (c : SaysC l cs fa fn K) : He.SaysD fa fn K := congrArg (fun z : AlC => z.2) c

/-! ### the law's call -/
/-- the script alone is seen -/
theorem law_g {P : Program} {w : World} {K : PySem.W.Frag} {mg mb : Str → Option Value} {k : Nat} {fa a : Addr} {fd : FuncData} {x : Str} {sp : Sp} {s1 : Shared} {vs : List Value} {ns : List Int}
    (kin : K.In s1.heap) (gns : s1.heap.Ns mainGlobals mg) (bns : s1.heap.Ns builtinsNs mb) (bb : ∀ x : Str, x ≠ "__name__" → mb x = bootBuiltins x) (lim : s1.heap.NoLimit) (gen : s1.gens = #[])
    (obj : s1.heap.get? a = some { cls := .type "list", data := .seq vs.toArray }) (isI : IntsAre vs ns) (len : ns.length ≤ sizeLine) (room : Room k callerA)
    (F : ∀ base : Heap, K.In base → base.Ns mainGlobals mg → FnG P w K mg base k fa fd [x] sp) (bd : ∀ (s : Shared) (u : Value), BindsTo s fd ⟨[u], []⟩ [(x, u)])
    (want : ∀ H : Hp, SqL K H a (ns.map V.int) → (∀ b, H b ≠ none → ∃ o, H b = some (.frz o (.lst (ns.map V.int)))) → sp [.ref a] H (fun v _ => v = .bl true) fun _ _ _ => False) :
    codeAny (model P w) callerA (.call (.ref fa) ⟨[.ref a], []⟩) (fun r s' => r = .ok (.ret (.bool true)) ∧ OldK s1.heap s'.heap ∧ s'.os = s1.os ∧ AllBare s'.gens) s1 := by
  have rel : Vals (ns.map V.int) vs := vals_ints isI
  let ob : Obj := { cls := .type "list", data := .seq vs.toArray }
  let seen : Bool := (K.lookup a).isNone
  let H : Hp := fun b => if b = a ∧ seen = true then some (.frz ob (.lst (ns.map V.int))) else none
  have H_iff : ∀ b u, H b = some u → b = a ∧ seen = true ∧ u = .frz ob (.lst (ns.map V.int)) := fun b u e => by
    by_cases c : b = a ∧ seen = true
    · have e' : some (HO.frz ob (.lst (ns.map V.int))) = some u := (if_pos c).symm.trans e
      exact ⟨c.1, c.2, (Option.some.inj e').symm⟩
    · have e' : (none : Option HO) = some u := (if_neg c).symm.trans e
      cases e'
  have H_no : ∀ b, b ≠ a → H b = none := fun b n => if_neg fun c => n c.1
  have sq : SqL K H a (ns.map V.int) := by
    cases q : K.lookup a with
    | none => exact .inl (.inr ⟨ob, if_pos ⟨rfl, by show (K.lookup a).isNone = true; rw [q]; rfl⟩⟩)
    | some o =>
      have e := kin a o q
      rw [obj] at e
      cases e
      exact .inr ⟨_, vs.toArray, _, q, rfl, rfl, rfl, by rw [List.size_toArray, isI.length]; exact len, by simpa using rel⟩
  have hok : HOk P w H s1.heap := fun b u e => by
    obtain ⟨rfl, _, rfl⟩ := H_iff b u e
    exact ⟨obj, by rw [List.length_map]; exact len, vs, _, rel, obj⟩
  have dict_no : ∀ {b : Addr} {o : Obj} {es : Array DictEntry} {ep : Nat}, s1.heap.get? b = some o → o.data = .dict es ep → H b = none := fun {b o es ep} e d => H_no b fun z => by
    subst z
    rw [obj] at e
    cases e
    cases (show Data.seq vs.toArray _ = Data.dict es ep from d)
  have ns_in : ∀ {b : Addr} {m : Str → Option Value}, s1.heap.Ns b m → (hidT s1.heap H).Ns b m := fun {b m} ⟨o, es, ep, e, d, r⟩ => ⟨o, es, ep, hidT_get e (dict_no e d), d, r⟩
  have kin' : K.In (hidT s1.heap H) := fun b o e => hidT_get (kin b o e) (by
    cases q : H b with
    | none => rfl
    | some u =>
      obtain ⟨rfl, z, _⟩ := H_iff b u q
      have z' : (K.lookup b).isNone = true := z
      rw [e] at z'
      cases z')
  have env : Env0 P w K mg (hidT s1.heap H) callerA [] s1 H :=
    { frames := rfl
      mod := ⟨kin', ns_in gns, ⟨mb, ns_in bns, bb⟩, (let ⟨mc, z1, z2⟩ := lim; ⟨mc, ns_in z1, z2⟩)⟩
      bs := fun b o e => of_hidT e
      bsz := by rw [hidT_size]; exact Nat.le_refl _
      funs := trivial
      frf := fun b hb => nomatch hb
      hok := hok
      bare := .of_eq gen }
  refine codeAny_mono ((F _ kin' (ns_in gns)).run callerA [] s1 H ⟨[.ref a], []⟩ [.ref a] [.ref a] _ _ rfl room env (bd s1 (.ref a)) (.cons rfl .nil) (want H sq fun b n => ?_)) fun r s' h => ?_
  · cases q : H b with
    | none => exact absurd q n
    | some u => obtain ⟨_, _, rfl⟩ := H_iff b u q; exact ⟨ob, rfl⟩
  · cases r with
    | error e =>
      obtain ⟨_, _, _, _, _, _, _, _, _, _, _, _, z⟩ := h
      exact z.elim
    | ok fl =>
      cases fl with
      | ret u =>
        obtain ⟨v, H', os, bare, un, hok', rv, q⟩ := h
        obtain rfl : v = .bl true := q
        obtain rfl : u = Value.bool true := rv
        refine ⟨rfl, OldK.of_keep fun b o e => ?_, os, bare⟩
        cases q : H b with
        | none => exact un.keep b o e q (fun z => nomatch z) (fun z => nomatch z)
        | some z =>
          obtain ⟨rfl, _, rfl⟩ := H_iff b z q
          have e2 := (hok' b _ (un.frzs b ob _ q)).1
          rw [obj] at e
          cases e
          exact e2
      | next => exact h.elim
      | brk => exact h.elim
      | cont => exact h.elim
theorem walk_g {l : PySem.W.OpenLaw} {n k : Nat} {q : Program} {loose : List Str} {XP : (Str → Option Value) → Heap → Prop} {YP : World → Heap → Prop} {d : DefRec} {x : Str}
    (hn : l.most = some n) (hn2 : n ≤ sizeLine) (hdf : d.params.defaults = []) (hr : Room k callerA)
    (F : ∀ (w : World) (mg : Str → Option Value) (fa : Addr) (h : Heap), YP w h → h.Ns mainGlobals mg → mg d.name = some (.ref fa) →
      ∃ (K : PySem.W.Frag) (fd : FuncData) (sp : Sp), K.In h ∧ (∀ (s : Shared) (u : Value), BindsTo s fd ⟨[u], []⟩ [(x, u)]) ∧
        (∀ (H : Hp) (a : Addr) (ns : List Int), ns.length ≤ n → SqL K H a (ns.map V.int) → (∀ b, H b ≠ none → ∃ o, H b = some (.frz o (.lst (ns.map V.int)))) → sp [.ref a] H (fun v _ => v = .bl true) fun _ _ _ => False) ∧
        ∀ base : Heap, K.In base → base.Ns mainGlobals mg → FnG l.prog w K mg base k fa fd [x] sp) :
    PySem.W.WalkO q loose XP YP l.row.toRowW d [] (fun f vs => PySem.call f vs) := by
  refine Att.attach_call hn hdf fun w s0 s1 mg mb fa o pm cd doc a vs ns G Y ho hd hcd hmg hobj hints hlen hg => ?_
  obtain ⟨K, fd, sp, kin, bd, want, FG⟩ := F w mg fa _ Y G.T.g hmg
  exact law_g kin G.T.g G.T.b G.T.builtins G.T.nolimit hg hobj hints (Nat.le_trans hlen hn2) hr FG bd fun H sq only => want H a ns hlen sq only
/-! ### the law's end -/
/-- what the evaluator tells of a law -/
def LawOk (P : Prog) (m i n : Nat) : Prop := ∀ ns : List Int, ns.length ≤ n → ∃ fr outs, callN P m i [.fz (.lst (ns.map D.int))] = .ok fr (.bl true) outs
theorem sp_law {T : Tb} {m i n : Nat} {H : Hp} {a : Addr} {ns : List Int} (hG : T.G0 = fun _ => none) (nl : NoList T.K) (h : LawOk T.pr m i n) (hl : ns.length ≤ n) (sq : SqL T.K H a (ns.map V.int)) :
    spEv T (callN T.pr m) i [.ref a] H (fun v _ => v = .bl true) fun _ _ _ => False := by
  obtain ⟨fr, outs, e⟩ := h ns hl
  have rd : Rd H a (.lst (ns.map V.int)) := by
    rcases sq with sq | ⟨o, its, z, e1, e2, _⟩
    · exact sq
    · exact absurd e2 (nl _ _ e1)
  refine ⟨H, [.fz (.lst (ns.map D.int))], fun j d q => ?_, ⟨Sub.refl _, by rw [hG]; exact ⟨fun b u z => (by rcases z with z | ⟨_, z⟩ <;> cases z), fun b xs z => (by cases z)⟩, rfl, fun j s q => ?_, fun j k s t q1 q2 w1 w2 _ => ?_⟩, ?_⟩
  · cases j with
    | zero => simp at q
    | succ j => simp at q
  · cases j with
    | zero =>
      cases q
      exact ⟨.ref a, rfl, .lst rd (RpA.ints ns)⟩
    | succ j => cases q
  · cases j with
    | zero => cases q1; cases w1
    | succ j => cases q1
  · rw [e]
    intro v G' H' _ _ rk _
    cases fr with
    | true =>
      obtain ⟨p, _, _, _, o⟩ := rk
      rcases o with ⟨_, _, z, _⟩ | ⟨_, _, _, z, _⟩ | ⟨_, _, _, z, _⟩ <;> cases z
    | false =>
      have r : Rp T.fa T.K G' v (.bl true) := rk
      cases r
      rfl
end Ev
end

section
set_option Elab.async false
set_option linter.all false
set_option maxRecDepth 100000
set_option maxHeartbeats 1000000
/-! Ev9: from the facts of a head to the promise of a law. -/
namespace Ev
open PySem PySem.Spec PyProof.Rows L2

/-- a law's text as data: its defs, its names, the law's number, how deep it is called -/
structure Lw where
  dd : List Dd
  kws : List (Nat × List Str × List Nat)
  globs : List Str
  nones : List Str
  pr : Prog
def Lw.tn (L : Lw) : Tn := ⟨L.dd.map fun z => (z.i, z.d.name), L.kws, L.globs, L.nones⟩
def Lw.fa (L : Lw) : List He.Fa := (L.dd.map fun z => He.Fa.glo z.d.name) ++ L.nones.map He.Fa.free
def Lw.cs (L : Lw) : List (Str × D) := L.globs.zip L.pr.glob
def Lw.fn (L : Lw) : List He.DefD := L.dd.map (·.d)
def Lw.all (L : Lw) : List (Nat × Str) := L.tn.fns
/-- what is checked of a text, by computing -/
structure LwOk (L : Lw) : Prop where
  flat : (L.dd.all fun z => z.d.dfl.isEmpty && (z.d.kwd.isEmpty && decide (z.d.at_ = (z.d.name, none)))) = true
  gl : L.globs.length = L.pr.glob.length
  defs : L.dd.all (defC L.tn L.pr.fns) = true
  rep : L.pr.rep = repD
def Lw.tb (L : Lw) (l : List (Nat × Str)) (P : Program) (w : World) (K : PySem.W.Frag) (mg : Str → Option Value) (base : Heap) : Tb := ⟨P, w, K, mg, base, faOf K l, L.pr, fun _ => none, fun _ => none, fun _ => none⟩
section
variable {L : Lw} {l : List (Nat × Str)} {P : Program} {w : World} {K : PySem.W.Frag} {mg : Str → Option Value} {base h : Heap}
theorem lw_fact (c : SaysC l L.cs L.fa L.fn K) : ∀ f ∈ L.fa, f.ok K = true := fun f hf => by
  obtain ⟨i, hi, e⟩ := List.mem_iff_getElem.mp hf
  exact c.old.fact i (by rw [List.getElem?_eq_getElem hi, e])
theorem lw_fun (ok : LwOk L) (X : K.In h) (G : h.Ns mainGlobals mg) (c : SaysC l L.cs L.fa L.fn K) {z : Dd} (hz : z ∈ L.dd) : ∃ fd, FunD K z.d.name z.d.qual z.d.params z.d.body z.d.scope [] [] (He.ga K z.d.name) fd ∧ mg z.d.name = some (.ref (He.ga K z.d.name)) := by
  obtain ⟨j, hj, ej⟩ := List.mem_iff_getElem.mp hz
  have fl := List.all_eq_true.mp ok.flat z hz
  simp only [Bool.and_eq_true, List.isEmpty_iff, decide_eq_true_eq] at fl
  obtain ⟨f1, f2, f3⟩ := fl
  obtain ⟨fd, F⟩ := c.old.def_ j (d := z.d) (by
    show (L.dd.map (·.d))[j]? = some z.d
    rw [List.getElem?_map, List.getElem?_eq_getElem hj, ej]
    rfl)
  have F' : FunD K z.d.name z.d.qual z.d.params z.d.body z.d.scope [] [] (He.ga K z.d.name) fd := by
    have e1 : z.d.dvs K = [] := by unfold He.DefD.dvs; rw [f1]; rfl
    have e2 : z.d.kws K = [] := by unfold He.DefD.kws; rw [f2]; rfl
    have e3 : He.fAd K z.d.at_ = He.ga K z.d.name := by rw [f3]; rfl
    rw [e1, e2, e3] at F
    exact F
  exact ⟨fd, F', He.glo_ok X G (lw_fact c (.glo z.d.name) (List.mem_append.mpr (.inl (List.mem_map.mpr ⟨z, hz, rfl⟩))))⟩
theorem lw_def (ok : LwOk L) (X : K.In h) (G : h.Ns mainGlobals mg) (c : SaysC l L.cs L.fa L.fn K) : ∀ (i : Nat) (x : Str), (i, x) ∈ L.tn.fns → DefOk (L.tb l P w K mg base) L.tn i x := fun i x hi => by
  obtain ⟨z, hz, e⟩ := List.mem_map.mp (show (i, x) ∈ L.dd.map fun z => (z.i, z.d.name) from hi)
  cases e
  obtain ⟨fd, F, hm⟩ := lw_fun ok X G c hz
  exact defC_ok (T := L.tb l P w K mg base) (List.all_eq_true.mp ok.defs z hz) F hm
theorem lw_ok (ok : LwOk L) (X : K.In h) (G : h.Ns mainGlobals mg) (c : SaysC l L.cs L.fa L.fn K) (n : Nat) : TnOk (L.tb l P w K mg base) L.tn n ⟨callN L.pr n, L.pr.glob, L.pr.rep⟩ := by
  refine tn_ok (T := L.tb l P w K mg base) ok.rep (fun x hx => ?_) (fun i x hi => ?_) (lw_def ok X G c) n
  · have hx' : x ∈ L.nones := by simpa [Lw.tn] using hx
    exact He.free_ok X G (lw_fact c (.free x) (List.mem_append.mpr (.inr (List.mem_map.mpr ⟨x, hx', rfl⟩))))
  · have hlt : i < L.globs.length := (List.getElem?_eq_some_iff.mp hi).1
    have hlt2 : i < L.pr.glob.length := by rw [← ok.gl]; exact hlt
    have hd : L.pr.glob[i]? = some L.pr.glob[i] := List.getElem?_eq_getElem hlt2
    have hm : (x, L.pr.glob[i]) ∈ L.cs := List.mem_of_getElem? (i := i) (by
      show (L.globs.zip L.pr.glob)[i]? = _
      rw [List.getElem?_zip_eq_some]
      exact ⟨hi, hd⟩)
    obtain ⟨v, u, e1, e2, e3⟩ := conF_ok (G := fun _ => none) X G (c.con _ hm)
    exact ⟨v, u, _, e1, e2, hd, e3⟩
/-- the law's def keeps its promise -/
theorem lw_law (ok : LwOk L) (X : K.In h) (nl : NoList K) (G : h.Ns mainGlobals mg) (c : SaysC l L.cs L.fa L.fn K) {f : Addr} {i m n : Nat} {x y : Str} (hi : (i, x) ∈ L.tn.fns) (hps : ∀ z ∈ L.dd, z.i = i → z.ps = [y]) (hm : mg x = some (.ref f)) (lw : LawOk L.pr (m + 1) i n) :
    ∃ (fd : FuncData) (sp : Sp), (∀ (s : Shared) (u : Value), BindsTo s fd ⟨[u], []⟩ [(y, u)]) ∧
      (∀ (H : Hp) (a : Addr) (ns : List Int), ns.length ≤ n → SqL K H a (ns.map V.int) → sp [.ref a] H (fun v _ => v = .bl true) fun _ _ _ => False) ∧
      ∀ base : Heap, K.In base → base.Ns mainGlobals mg → FnG P w K mg base (m + 1) f fd [y] sp := by
  obtain ⟨z, hz, e⟩ := List.mem_map.mp (show (i, x) ∈ L.dd.map fun z => (z.i, z.d.name) from hi)
  cases e
  obtain ⟨fd, F, hm'⟩ := lw_fun ok X G c hz
  rw [hm] at hm'
  cases hm'
  have hc := List.all_eq_true.mp ok.defs z hz
  have ep := hps z hz rfl
  unfold defC at hc
  split at hc
  · rename_i fdE e
    simp only [Bool.and_eq_true, beq_iff_eq, decide_eq_true_eq] at hc
    obtain ⟨h1, h2, h3, h4, h5, h6, h7⟩ := hc
    have S := scopeB_ok h1
    rw [ep] at S h3 h5
    have nd : ([y] : List Str).Nodup := by simp
    have bd := fun_binds F h4 h5 nd
    refine ⟨fd, spEv (L.tb l P w K mg h) (callN L.pr (m + 1)) z.i, fun s u => ?_, fun H a ns hl sq => sp_law (T := L.tb l P w K mg h) rfl nl lw hl sq, fun base kb gb => ?_⟩
    · obtain ⟨oc, od, dV, kV, doc, pm, an, cdv, ct, osl, rfl, lk, hcd, hD, hK⟩ := F.ex
      rcases hD with ⟨_, rfl⟩ | ⟨e, _⟩
      · exact .of_eq (binds_plain (us := [u]) h4 h5 nd rfl)
      · exact absurd rfl e
    · refine fn_ev (T := L.tb l P w K mg base) (k := 0) e F S h2 h3 ok.rep fun X' W O hN hs hf r Pp => ?_
      exact (cks_ok (lw_ok ok X G c m) fdE.body).b O ⟨S.nd, hN, hs, fun x _ => hf x⟩ r Pp S.kind h6
  · cases hc
end
end Ev
end

section
set_option Elab.async false
set_option linter.all false
set_option maxRecDepth 1000000
set_option maxHeartbeats 0
/-! the defs of the text, in the engine's own language (printed by gen.py) -/
namespace K75
open Ev PySem
/-- is_whole: value -/
def f_is_whole : Fn := ⟨1, 1, false, (.ret (.and (.isi (.var 0) .int) (.not (.isi (.var 0) .bool))))⟩
/-- is_between: value, low, high -/
def f_is_between : Fn := ⟨3, 3, false, (.ret (.and (.call 0 (.cons (.var 0) .nil)) (.cmp (.var 1) (.link .le (.var 0) (.link .le (.var 2) .nil)))))⟩
/-- wrong_in_lot: many, value, index, each -/
def f_wrong_in_lot : Fn := ⟨4, 2, false, (.seq (.ite (.not (.isi (.var 1) .tuple)) (.ret (.lst (.cons .non .nil))) .skip) (.seq (.loop (.tup (.cons (.nm 2 false) (.cons (.nm 3 false) .nil))) (.itE (.var 1)) (.ite (.or (.not (.call 1 (.cons (.var 3) (.cons (.int 0) (.cons (.bin .sub (.var 0) (.int 1)) .nil))))) (.and (.cmp (.var 2) (.link .gt (.int 0) .nil)) (.cmp (.var 3) (.link .le (.ix (.var 1) (.bin .sub (.var 2) (.int 1))) .nil)))) (.ret (.lst (.cons (.var 2) .nil))) .skip)) (.ret (.lst .nil))))⟩
/-- all_numbers: many -/
def f_all_numbers : Fn := ⟨1, 1, false, (.ret (.lrng (.cons (.var 0) .nil)))⟩
/-- grown: room, pairs, near, pair, place -/
def f_grown : Fn := ⟨5, 2, false, (.seq (.asg (.nm 2 false) (.lc2 (.nm 3 false) (.itP (.var 1)) (.or (.cmp (.ix (.var 3) (.int 0)) (.link .isin (.var 0) .nil)) (.cmp (.ix (.var 3) (.int 1)) (.link .isin (.var 0) .nil))) (.nm 4 false) (.itP (.var 3)) (.bl true) (.var 4) [3, 4] [4])) (.ret (.dds false (.dun (.var 0) (.dun (.dc false (.nm 4 false) (.itP (.var 2)) (.bl true) (.var 4) (.bl true) [4]) .dnil)))))⟩
/-- room_around: place, pairs, found, more -/
def f_room_around : Fn := ⟨4, 2, false, (.seq (.par (.cons (.nm 2 false) (.cons (.nm 3 false) .nil)) (.cons (.dds false .dnil) (.cons (.dds false (.dkv (.var 0) (.bl true) .dnil)) .nil))) (.seq (.wh (.cmp (.bi .len (.cons (.var 3) .nil)) (.link .gt (.bi .len (.cons (.var 2) .nil)) .nil)) (.par (.cons (.nm 2 false) (.cons (.nm 3 false) .nil)) (.cons (.var 3) (.cons (.call 4 (.cons (.var 3) (.cons (.var 1) .nil))) .nil)))) (.ret (.bi .tuple (.cons (.bi .sorted (.cons (.var 2) .nil)) .nil)))))⟩
/-- check_number: value, low, high -/
def f_check_number : Fn := ⟨3, 3, false, (.ite (.not (.call 1 (.cons (.var 0) (.cons (.var 1) (.cons (.var 2) .nil))))) .never .skip)⟩
/-- pairs_in: near, lot, one, two -/
def f_pairs_in : Fn := ⟨4, 2, false, (.ret (.lc2 (.nm 2 false) (.itP (.var 1)) (.bl true) (.nm 3 false) (.itP (.ix (.var 0) (.var 2))) (.and (.cmp (.var 2) (.link .lt (.var 3) .nil)) (.cmp (.var 3) (.link .isin (.var 1) .nil))) (.tup (.cons (.var 2) (.cons (.var 3) .nil))) [2, 3] [3]))⟩
/-- pieces_in: near, lot, pairs, cell -/
def f_pieces_in : Fn := ⟨4, 2, false, (.seq (.asg (.nm 2 false) (.call 7 (.cons (.var 0) (.cons (.var 1) .nil)))) (.ret (.bi .sorted (.cons (.dc true (.nm 3 false) (.itP (.var 1)) (.bl true) (.call 5 (.cons (.var 3) (.cons (.var 2) .nil))) (.bl true) [3]) .nil))))⟩
/-- has_all: lot, sides, side, cell -/
def f_has_all : Fn := ⟨4, 2, false, (.ret (.bi .all (.cons (.lc (.nm 2 false) (.itP (.var 1)) (.bl true) (.bi .any (.cons (.lc (.nm 3 false) (.itP (.var 0)) (.bl true) (.cmp (.var 3) (.link .isin (.var 2) .nil)) [3]) .nil)) [2]) .nil)))⟩
/-- is_whole_piece: near, lot, sides -/
def f_is_whole_piece : Fn := ⟨3, 3, false, (.ret (.and (.cmp (.bi .len (.cons (.call 8 (.cons (.var 0) (.cons (.var 1) .nil))) .nil)) (.link .eq (.int 1) .nil)) (.call 9 (.cons (.var 1) (.cons (.var 2) .nil)))))⟩
/-- cells_of_by: side -/
def f_cells_of_by : Fn := ⟨1, 1, false, (.ret (.bin .fdiv (.bin .mul (.var 0) (.bin .add (.var 0) (.int 1))) (.int 2)))⟩
/-- cell_at: row, place -/
def f_cell_at : Fn := ⟨2, 2, false, (.ret (.bin .add (.call 11 (.cons (.var 0) .nil)) (.var 1)))⟩
/-- all_spots: side, row, place -/
def f_all_spots : Fn := ⟨3, 1, false, (.ret (.lc2 (.nm 1 false) (.itP (.call 3 (.cons (.var 0) .nil))) (.bl true) (.nm 2 false) (.itP (.call 3 (.cons (.bin .add (.var 1) (.int 1)) .nil))) (.bl true) (.tup (.cons (.var 1) (.cons (.var 2) .nil))) [1, 2] [2]))⟩
/-- beside_by: side, cell, near, row, place, down, right, r, p -/
def f_beside_by : Fn := ⟨9, 2, false, (.seq (.asg (.tup (.cons (.nm 3 false) (.cons (.nm 4 false) .nil))) (.ix (.call 13 (.cons (.var 0) .nil)) (.var 1))) (.seq (.asg (.nm 2 false) (.lc (.tup (.cons (.nm 5 false) (.cons (.nm 6 false) .nil))) (.itP (.glob 1)) (.bl true) (.tup (.cons (.bin .add (.var 3) (.var 5)) (.cons (.bin .add (.var 4) (.var 6)) .nil))) [5, 6])) (.ret (.bi .tuple (.cons (.bi .sorted (.cons (.lc (.tup (.cons (.nm 7 false) (.cons (.nm 8 false) .nil))) (.itP (.var 2)) (.cmp (.int 0) (.link .le (.var 8) (.link .le (.var 7) (.link .lt (.var 0) .nil)))) (.call 12 (.cons (.var 7) (.cons (.var 8) .nil))) [7, 8]) .nil)) .nil)))))⟩
/-- all_near: side, cell -/
def f_all_near : Fn := ⟨2, 1, false, (.ret (.lc (.nm 1 false) (.itP (.call 3 (.cons (.call 11 (.cons (.var 0) .nil)) .nil))) (.bl true) (.call 14 (.cons (.var 0) (.cons (.var 1) .nil))) [1]))⟩
/-- three_sides: side, rows, row, place -/
def f_three_sides : Fn := ⟨4, 1, false, (.seq (.asg (.nm 1 false) (.call 3 (.cons (.var 0) .nil))) (.ret (.lst (.cons (.lc (.nm 2 false) (.itP (.var 1)) (.bl true) (.call 12 (.cons (.var 2) (.cons (.int 0) .nil))) [2]) (.cons (.lc (.nm 2 false) (.itP (.var 1)) (.bl true) (.call 12 (.cons (.var 2) (.cons (.var 2) .nil))) [2]) (.cons (.lc (.nm 3 false) (.itP (.var 1)) (.bl true) (.call 12 (.cons (.bin .sub (.var 0) (.int 1)) (.cons (.var 3) .nil))) [3]) .nil))))))⟩
/-- meets_all_by: side, lot -/
def f_meets_all_by : Fn := ⟨2, 2, false, (.ret (.call 10 (.cons (.call 15 (.cons (.var 0) .nil)) (.cons (.var 1) (.cons (.call 16 (.cons (.var 0) .nil)) .nil)))))⟩
/-- check_side: side -/
def f_check_side : Fn := ⟨1, 1, false, (.ex (.call 6 (.cons (.var 0) (.cons (.int 1) (.cons (.glob 0) .nil)))))⟩
/-- check_three_fill: side, fill, index -/
def f_check_three_fill : Fn := ⟨3, 2, false, (.seq (.ex (.call 18 (.cons (.var 0) .nil))) (.loop (.nm 2 false) (.itP (.call 2 (.cons (.call 11 (.cons (.var 0) .nil)) (.cons (.var 1) .nil)))) .never))⟩
/-- cells_of: side -/
def f_cells_of : Fn := ⟨1, 1, false, (.seq (.ex (.call 18 (.cons (.var 0) .nil))) (.ret (.call 11 (.cons (.var 0) .nil))))⟩
/-- beside: side, cell -/
def f_beside : Fn := ⟨2, 2, false, (.seq (.ex (.call 18 (.cons (.var 0) .nil))) (.seq (.ite (.not (.call 1 (.cons (.var 1) (.cons (.int 0) (.cons (.bin .sub (.call 11 (.cons (.var 0) .nil)) (.int 1)) .nil))))) .never .skip) (.ret (.call 14 (.cons (.var 0) (.cons (.var 1) .nil))))))⟩
/-- meets_all: side, lot -/
def f_meets_all : Fn := ⟨2, 2, false, (.seq (.ex (.call 19 (.cons (.var 0) (.cons (.var 1) .nil)))) (.ret (.call 17 (.cons (.var 0) (.cons (.var 1) .nil)))))⟩
/-- _law_pool: script, turn, cell, own, stirred -/
def f__law_pool : Fn := ⟨5, 2, true, (.seq (.par (.cons (.nm 3 false) (.cons (.nm 4 false) .nil)) (.cons (.ite (.cmp (.var 1) (.link .lt (.bi .len (.cons (.var 0) .nil)) .nil)) (.bi .int (.cons (.ix (.var 0) (.var 1)) .nil)) (.bin .add (.bin .mul (.int 70001) (.var 1)) (.int 4975))) (.cons (.bin .add (.int 1133026) (.bin .mul (.int 5087) (.var 1))) .nil))) (.seq (.loop (.nm 2 false) (.itP (.sl (.var 0) .nil (.int 63))) (.asg (.nm 4 false) (.bin .mod (.bi .int (.cons (.bin .add (.bin .add (.bin .mul (.var 4) (.int 48271)) (.bin .mod (.bi .int (.cons (.var 2) .nil)) (.int 2147483489))) (.int 639)) .nil)) (.int 2147483489)))) (.ret (.lst (.cons (.bin .mod (.bi .int (.cons (.bin .add (.var 4) (.bin .mul (.var 3) (.int 1013))) .nil)) (.int 2147483489)) (.cons (.ite (.or (.cmp (.var 3) (.link .lt (.int 0) .nil)) (.cmp (.var 3) (.link .ge (.bin .pow (.int 10) (.int 18)) .nil))) (.bi .abs (.cons (.var 3) .nil)) (.int 0)) (.cons (.int 0) .nil)))))))⟩
/-- _law_draw: pool, many, held, figure -/
def f__law_draw : Fn := ⟨4, 2, false, (.seq (.ite (.cmp (.ix (.var 0) (.int 1)) (.link .gt (.int 0) .nil)) (.seq (.asg (.tup (.cons (.ix 0 (.int 1)) (.cons (.nm 3 false) .nil))) (.divmod (.ix (.var 0) (.int 1)) (.var 1))) (.ret (.var 3))) .skip) (.seq (.asg (.ix 0 (.int 2)) (.bin .add (.ix (.var 0) (.int 2)) (.int 1))) (.seq (.asg (.nm 2 false) (.bi .int (.cons (.ix (.var 0) (.int 0)) .nil))) (.seq (.asg (.ix 0 (.int 0)) (.bin .mod (.bi .int (.cons (.bin .add (.bin .add (.bin .mul (.var 2) (.bin .add (.bin .mod (.var 2) (.int 20011)) (.int 30011))) (.bin .mul (.int 70001) (.ix (.var 0) (.int 2)))) (.int 9)) .nil)) (.int 2147483489))) (.ret (.bin .mod (.bi .int (.cons (.bin .fdiv (.ix (.var 0) (.int 0)) (.int 128)) .nil)) (.var 1)))))))⟩
/-- _law_pick: pool, some -/
def f__law_pick : Fn := ⟨2, 2, false, (.ret (.ix (.var 1) (.call 24 (.cons (.lend 0) (.cons (.bi .len (.cons (.var 1) .nil)) .nil)))))⟩
/-- _law_places: side, found, r, c -/
def f__law_places : Fn := ⟨4, 1, false, (.seq (.asg (.nm 1 false) (.lst .nil)) (.seq (.loop (.nm 2 false) (.itR (.cons (.var 0) .nil)) (.asg (.nm 1 false) (.bin .add (.var 1) (.lc (.nm 3 false) (.itR (.cons (.bin .add (.var 2) (.int 1)) .nil)) (.bl true) (.tup (.cons (.var 2) (.cons (.var 3) .nil))) [3])))) (.ret (.var 1))))⟩
/-- _law_near: side, cell, cells, some, r, c, each -/
def f__law_near : Fn := ⟨7, 2, false, (.seq (.asg (.nm 2 false) (.call 26 (.cons (.var 0) .nil))) (.seq (.asg (.tup (.cons (.nm 4 false) (.cons (.nm 5 false) .nil))) (.ix (.var 2) (.var 1))) (.seq (.asg (.nm 3 false) (.lst (.cons (.tup (.cons (.var 4) (.cons (.bin .sub (.var 5) (.int 1)) .nil))) (.cons (.tup (.cons (.var 4) (.cons (.bin .add (.var 5) (.int 1)) .nil))) (.cons (.tup (.cons (.bin .sub (.var 4) (.int 1)) (.cons (.bin .sub (.var 5) (.int 1)) .nil))) (.cons (.tup (.cons (.bin .sub (.var 4) (.int 1)) (.cons (.var 5) .nil))) (.cons (.tup (.cons (.bin .add (.var 4) (.int 1)) (.cons (.var 5) .nil))) (.cons (.tup (.cons (.bin .add (.var 4) (.int 1)) (.cons (.bin .add (.var 5) (.int 1)) .nil))) .nil)))))))) (.ret (.bi .tuple (.cons (.bi .sorted (.cons (.lc (.nm 6 false) (.itP (.var 3)) (.cmp (.var 6) (.link .isin (.var 2) .nil)) (.mt .index (.var 2) (.cons (.var 6) .nil)) [6]) .nil)) .nil))))))⟩
/-- _law_hangs: side, lot, here, step, cell, each -/
def f__law_hangs : Fn := ⟨6, 2, false, (.seq (.asg (.nm 2 false) (.bi .list (.cons (.sl (.var 1) .nil (.int 1)) .nil))) (.seq (.loop (.nm 3 false) (.itR (.cons (.bi .len (.cons (.var 1) .nil)) .nil)) (.asg (.nm 2 false) (.bin .add (.var 2) (.lc (.nm 4 false) (.itP (.var 1)) (.and (.cmp (.var 4) (.link .notin (.var 2) .nil)) (.cmp (.lc (.nm 5 false) (.itP (.call 27 (.cons (.var 0) (.cons (.var 4) .nil)))) (.cmp (.var 5) (.link .isin (.var 2) .nil)) (.int 1) [5]) (.link .ne (.lst .nil) .nil))) (.var 4) [4])))) (.ret (.and (.cmp (.var 1) (.link .ne (.tup .nil) .nil)) (.cmp (.bi .len (.cons (.var 2) .nil)) (.link .eq (.bi .len (.cons (.var 1) .nil)) .nil))))))⟩
/-- _law_meets: side, lot, cells, some, cell, r, c -/
def f__law_meets : Fn := ⟨7, 2, false, (.seq (.asg (.nm 2 false) (.call 26 (.cons (.var 0) .nil))) (.seq (.asg (.nm 3 false) (.lc (.nm 4 false) (.itP (.var 1)) (.bl true) (.ix (.var 2) (.var 4)) [4])) (.ret (.and (.cmp (.lc (.tup (.cons (.nm 5 false) (.cons (.nm 6 false) .nil))) (.itP (.var 3)) (.cmp (.var 6) (.link .eq (.int 0) .nil)) (.int 1) [5, 6]) (.link .ne (.lst .nil) .nil)) (.and (.cmp (.lc (.tup (.cons (.nm 5 false) (.cons (.nm 6 false) .nil))) (.itP (.var 3)) (.cmp (.var 6) (.link .eq (.var 5) .nil)) (.int 1) [5, 6]) (.link .ne (.lst .nil) .nil)) (.cmp (.lc (.tup (.cons (.nm 5 false) (.cons (.nm 6 false) .nil))) (.itP (.var 3)) (.cmp (.var 5) (.link .eq (.bin .sub (.var 0) (.int 1)) .nil)) (.int 1) [5, 6]) (.link .ne (.lst .nil) .nil)))))))⟩
/-- _law_fill: pool, cells, wide, cell -/
def f__law_fill : Fn := ⟨4, 2, false, (.seq (.asg (.nm 2 false) (.bin .add (.int 1) (.call 24 (.cons (.lend 0) (.cons (.int 3) .nil))))) (.ret (.bi .tuple (.cons (.lc (.nm 3 false) (.itR (.cons (.var 1) .nil)) (.cmp (.call 24 (.cons (.lend 0) (.cons (.int 4) .nil))) (.link .lt (.var 2) .nil)) (.var 3) [3]) .nil))))⟩
/-- _law_grown: pool, side, cells, found, step, more, cell, each -/
def f__law_grown : Fn := ⟨8, 3, false, (.seq (.asg (.nm 3 true) (.lst (.cons (.call 24 (.cons (.lend 0) (.cons (.var 2) .nil))) .nil))) (.seq (.loop (.nm 4 false) (.itR (.cons (.call 24 (.cons (.lend 0) (.cons (.var 2) .nil))) .nil)) (.seq (.asg (.nm 5 false) (.lc (.nm 6 false) (.itR (.cons (.var 2) .nil)) (.and (.cmp (.var 6) (.link .notin (.var 3) .nil)) (.cmp (.lc (.nm 7 false) (.itP (.call 27 (.cons (.var 1) (.cons (.var 6) .nil)))) (.cmp (.var 7) (.link .isin (.var 3) .nil)) (.int 1) [7]) (.link .ne (.lst .nil) .nil))) (.var 6) [6])) (.ite (.cmp (.var 5) (.link .ne (.lst .nil) .nil)) (.ex (.mu .append 3 (.cons (.call 25 (.cons (.lend 0) (.cons (.var 5) .nil))) .nil))) .skip))) (.ret (.bi .tuple (.cons (.bi .sorted (.cons (.var 3) .nil)) .nil)))))⟩
/-- _law_right: pool, side, cells, cell, lot, due, each -/
def f__law_right : Fn := ⟨7, 1, false, (.seq (.loop (.nm 1 false) (.itP (.lst (.cons (.int 1) (.cons (.int 2) (.cons (.int 3) (.cons (.int 4) .nil)))))) (.seq (.asg (.nm 2 false) (.bi .len (.cons (.call 26 (.cons (.var 1) .nil)) .nil))) (.seq (.ite (.cmp (.bi .repr (.cons (.lst (.cons (.call 20 (.cons (.var 1) .nil)) (.cons (.callK 20 (.cons (.var 1) .nil) [0]) .nil))) .nil)) (.link .ne (.bi .repr (.cons (.lst (.cons (.var 2) (.cons (.var 2) .nil))) .nil)) .nil)) (.ret (.bl false)) .skip) (.seq (.loop (.nm 3 false) (.itR (.cons (.var 2) .nil)) (.seq (.asg (.nm 5 false) (.call 27 (.cons (.var 1) (.cons (.var 3) .nil)))) (.ite (.or (.cmp (.bi .repr (.cons (.lst (.cons (.call 21 (.cons (.var 1) (.cons (.var 3) .nil))) (.cons (.callK 21 (.cons (.var 3) (.cons (.var 1) .nil)) [1, 0]) .nil))) .nil)) (.link .ne (.bi .repr (.cons (.lst (.cons (.var 5) (.cons (.var 5) .nil))) .nil)) .nil)) (.cmp (.lc (.nm 6 false) (.itP (.var 5)) (.cmp (.var 3) (.link .notin (.call 21 (.cons (.var 1) (.cons (.var 6) .nil))) .nil)) (.var 6) [6]) (.link .ne (.lst .nil) .nil))) (.ret (.bl false)) .skip))) (.loop (.nm 4 false) (.itP (.lst (.cons (.call 31 (.cons (.lend 0) (.cons (.var 1) (.cons (.var 2) .nil)))) (.cons (.call 31 (.cons (.lend 0) (.cons (.var 1) (.cons (.var 2) .nil)))) (.cons (.call 30 (.cons (.lend 0) (.cons (.var 2) .nil))) (.cons (.call 30 (.cons (.lend 0) (.cons (.var 2) .nil))) (.cons (.tup .nil) (.cons (.trng (.cons (.var 2) .nil)) (.cons (.tup (.cons (.int 0) .nil)) .nil))))))))) (.seq (.asg (.nm 5 false) (.and (.call 28 (.cons (.var 1) (.cons (.var 4) .nil))) (.call 29 (.cons (.var 1) (.cons (.var 4) .nil))))) (.ite (.cmp (.bi .repr (.cons (.lst (.cons (.call 22 (.cons (.var 1) (.cons (.var 4) .nil))) (.cons (.callK 22 (.cons (.var 4) (.cons (.var 1) .nil)) [1, 0]) .nil))) .nil)) (.link .ne (.bi .repr (.cons (.lst (.cons (.var 5) (.cons (.var 5) .nil))) .nil)) .nil)) (.ret (.bl false)) .skip))))))) (.ret (.and (.cmp (.call 22 (.cons (.int 2) (.cons (.tup (.cons (.int 0) (.cons (.int 1) .nil))) .nil))) (.link .is (.bl true) .nil)) (.and (.cmp (.call 21 (.cons (.int 2) (.cons (.int 0) .nil))) (.link .eq (.tup (.cons (.int 1) (.cons (.int 2) .nil))) .nil)) (.and (.cmp (.call 20 (.cons (.int 3) .nil)) (.link .eq (.int 6) .nil)) (.and (.cmp (.call 22 (.cons (.int 1) (.cons (.tup (.cons (.int 0) .nil)) .nil))) (.link .is (.bl true) .nil)) (.cmp (.call 22 (.cons (.int 3) (.cons (.tup (.cons (.int 0) (.cons (.int 5) .nil))) .nil))) (.link .is (.bl false) .nil))))))))⟩
/-- law: script, turn -/
def f_law : Fn := ⟨2, 1, false, (.seq (.loop (.nm 1 false) (.itR (.cons (.bi .max (.cons (.int 2) (.cons (.bi .min (.cons (.bi .len (.cons (.var 0) .nil)) (.cons (.int 3) .nil))) .nil))) .nil)) (.ite (.not (.call 32 (.cons (.give (.call 23 (.cons (.var 0) (.cons (.var 1) .nil)))) .nil))) (.ret (.bl false)) .skip)) (.ret (.bl true)))⟩
def fns : List Fn := [f_is_whole, f_is_between, f_wrong_in_lot, f_all_numbers, f_grown, f_room_around, f_check_number, f_pairs_in, f_pieces_in, f_has_all, f_is_whole_piece, f_cells_of_by, f_cell_at, f_all_spots, f_beside_by, f_all_near, f_three_sides, f_meets_all_by, f_check_side, f_check_three_fill, f_cells_of, f_beside, f_meets_all, f__law_pool, f__law_draw, f__law_pick, f__law_places, f__law_near, f__law_hangs, f__law_meets, f__law_fill, f__law_grown, f__law_right, f_law]
def globs : List D := [(.int 4), (.ktp [(.ktp [(.int 0), (.int (-1))]), (.ktp [(.int 0), (.int 1)]), (.ktp [(.int (-1)), (.int (-1))]), (.ktp [(.int (-1)), (.int 0)]), (.ktp [(.int 1), (.int 0)]), (.ktp [(.int 1), (.int 1)])]), .fn 0, .fn 1, .fn 2, .fn 3, .fn 4, .fn 5, .fn 6, .fn 7, .fn 8, .fn 9, .fn 10, .fn 11, .fn 12, .fn 13, .fn 14, .fn 15, .fn 16, .fn 17, .fn 18, .fn 19, .fn 20, .fn 21, .fn 22, .fn 23, .fn 24, .fn 25, .fn 26, .fn 27, .fn 28, .fn 29, .fn 30, .fn 31, .fn 32, .fn 33]
def globN : List Str := [Str.ofString "MOST_SIDE", Str.ofString "STEPS", Str.ofString "is_whole", Str.ofString "is_between", Str.ofString "wrong_in_lot", Str.ofString "all_numbers", Str.ofString "grown", Str.ofString "room_around", Str.ofString "check_number", Str.ofString "pairs_in", Str.ofString "pieces_in", Str.ofString "has_all", Str.ofString "is_whole_piece", Str.ofString "cells_of_by", Str.ofString "cell_at", Str.ofString "all_spots", Str.ofString "beside_by", Str.ofString "all_near", Str.ofString "three_sides", Str.ofString "meets_all_by", Str.ofString "check_side", Str.ofString "check_three_fill", Str.ofString "cells_of", Str.ofString "beside", Str.ofString "meets_all", Str.ofString "_law_pool", Str.ofString "_law_draw", Str.ofString "_law_pick", Str.ofString "_law_places", Str.ofString "_law_near", Str.ofString "_law_hangs", Str.ofString "_law_meets", Str.ofString "_law_fill", Str.ofString "_law_grown", Str.ofString "_law_right", Str.ofString "law"]
def nones : List Str := [Str.ofString "abs", Str.ofString "all", Str.ofString "any", Str.ofString "bool", Str.ofString "divmod", Str.ofString "enumerate", Str.ofString "int", Str.ofString "isinstance", Str.ofString "len", Str.ofString "list", Str.ofString "max", Str.ofString "min", Str.ofString "range", Str.ofString "repr", Str.ofString "sorted", Str.ofString "tuple"]
def kws : List (Nat × List Str × List Nat) := [(20, [Str.ofString "side"], [0]), (21, [Str.ofString "cell", Str.ofString "side"], [1, 0]), (22, [Str.ofString "lot", Str.ofString "side"], [1, 0])]
def prog : Prog := ⟨fns, globs, 100000, repD⟩
end K75
namespace K75
open PySem PySem.Spec PyProof.Rows L2 Ev
def deep : Nat := 40
def topS (i : Nat) : Stmt := PySem.Challenge.pw_joinorbar_k75_whole_neighbours_and_sides.main.body.getD i (.Pass ⟨0, 0, 0, 0⟩)
def dd : List Dd := [⟨0, ⟨("is_whole", none), "is_whole", "is_whole", L2.defArgs (topS 6), L2.defBody (topS 6), L2.defScope (topS 6), [], []⟩, [Str.ofString "value"], [Str.ofString "value"]⟩,
  ⟨1, ⟨("is_between", none), "is_between", "is_between", L2.defArgs (topS 7), L2.defBody (topS 7), L2.defScope (topS 7), [], []⟩, [Str.ofString "value", Str.ofString "low", Str.ofString "high"], [Str.ofString "value", Str.ofString "low", Str.ofString "high"]⟩,
  ⟨2, ⟨("wrong_in_lot", none), "wrong_in_lot", "wrong_in_lot", L2.defArgs (topS 9), L2.defBody (topS 9), L2.defScope (topS 9), [], []⟩, [Str.ofString "many", Str.ofString "value", Str.ofString "index", Str.ofString "each"], [Str.ofString "many", Str.ofString "value"]⟩,
  ⟨3, ⟨("all_numbers", none), "all_numbers", "all_numbers", L2.defArgs (topS 10), L2.defBody (topS 10), L2.defScope (topS 10), [], []⟩, [Str.ofString "many"], [Str.ofString "many"]⟩,
  ⟨4, ⟨("grown", none), "grown", "grown", L2.defArgs (topS 11), L2.defBody (topS 11), L2.defScope (topS 11), [], []⟩, [Str.ofString "room", Str.ofString "pairs", Str.ofString "near", Str.ofString "pair", Str.ofString "place"], [Str.ofString "room", Str.ofString "pairs"]⟩,
  ⟨5, ⟨("room_around", none), "room_around", "room_around", L2.defArgs (topS 12), L2.defBody (topS 12), L2.defScope (topS 12), [], []⟩, [Str.ofString "place", Str.ofString "pairs", Str.ofString "found", Str.ofString "more"], [Str.ofString "place", Str.ofString "pairs"]⟩,
  ⟨6, ⟨("check_number", none), "check_number", "check_number", L2.defArgs (topS 14), L2.defBody (topS 14), L2.defScope (topS 14), [], []⟩, [Str.ofString "value", Str.ofString "low", Str.ofString "high"], [Str.ofString "value", Str.ofString "low", Str.ofString "high"]⟩,
  ⟨7, ⟨("pairs_in", none), "pairs_in", "pairs_in", L2.defArgs (topS 16), L2.defBody (topS 16), L2.defScope (topS 16), [], []⟩, [Str.ofString "near", Str.ofString "lot", Str.ofString "one", Str.ofString "two"], [Str.ofString "near", Str.ofString "lot"]⟩,
  ⟨8, ⟨("pieces_in", none), "pieces_in", "pieces_in", L2.defArgs (topS 17), L2.defBody (topS 17), L2.defScope (topS 17), [], []⟩, [Str.ofString "near", Str.ofString "lot", Str.ofString "pairs", Str.ofString "cell"], [Str.ofString "near", Str.ofString "lot"]⟩,
  ⟨9, ⟨("has_all", none), "has_all", "has_all", L2.defArgs (topS 18), L2.defBody (topS 18), L2.defScope (topS 18), [], []⟩, [Str.ofString "lot", Str.ofString "sides", Str.ofString "side", Str.ofString "cell"], [Str.ofString "lot", Str.ofString "sides"]⟩,
  ⟨10, ⟨("is_whole_piece", none), "is_whole_piece", "is_whole_piece", L2.defArgs (topS 19), L2.defBody (topS 19), L2.defScope (topS 19), [], []⟩, [Str.ofString "near", Str.ofString "lot", Str.ofString "sides"], [Str.ofString "near", Str.ofString "lot", Str.ofString "sides"]⟩,
  ⟨11, ⟨("cells_of_by", none), "cells_of_by", "cells_of_by", L2.defArgs (topS 23), L2.defBody (topS 23), L2.defScope (topS 23), [], []⟩, [Str.ofString "side"], [Str.ofString "side"]⟩,
  ⟨12, ⟨("cell_at", none), "cell_at", "cell_at", L2.defArgs (topS 24), L2.defBody (topS 24), L2.defScope (topS 24), [], []⟩, [Str.ofString "row", Str.ofString "place"], [Str.ofString "row", Str.ofString "place"]⟩,
  ⟨13, ⟨("all_spots", none), "all_spots", "all_spots", L2.defArgs (topS 25), L2.defBody (topS 25), L2.defScope (topS 25), [], []⟩, [Str.ofString "side", Str.ofString "row", Str.ofString "place"], [Str.ofString "side"]⟩,
  ⟨14, ⟨("beside_by", none), "beside_by", "beside_by", L2.defArgs (topS 26), L2.defBody (topS 26), L2.defScope (topS 26), [], []⟩, [Str.ofString "side", Str.ofString "cell", Str.ofString "near", Str.ofString "row", Str.ofString "place", Str.ofString "down", Str.ofString "right", Str.ofString "r", Str.ofString "p"], [Str.ofString "side", Str.ofString "cell"]⟩,
  ⟨15, ⟨("all_near", none), "all_near", "all_near", L2.defArgs (topS 27), L2.defBody (topS 27), L2.defScope (topS 27), [], []⟩, [Str.ofString "side", Str.ofString "cell"], [Str.ofString "side"]⟩,
  ⟨16, ⟨("three_sides", none), "three_sides", "three_sides", L2.defArgs (topS 28), L2.defBody (topS 28), L2.defScope (topS 28), [], []⟩, [Str.ofString "side", Str.ofString "rows", Str.ofString "row", Str.ofString "place"], [Str.ofString "side"]⟩,
  ⟨17, ⟨("meets_all_by", none), "meets_all_by", "meets_all_by", L2.defArgs (topS 29), L2.defBody (topS 29), L2.defScope (topS 29), [], []⟩, [Str.ofString "side", Str.ofString "lot"], [Str.ofString "side", Str.ofString "lot"]⟩,
  ⟨18, ⟨("check_side", none), "check_side", "check_side", L2.defArgs (topS 31), L2.defBody (topS 31), L2.defScope (topS 31), [], []⟩, [Str.ofString "side"], [Str.ofString "side"]⟩,
  ⟨19, ⟨("check_three_fill", none), "check_three_fill", "check_three_fill", L2.defArgs (topS 32), L2.defBody (topS 32), L2.defScope (topS 32), [], []⟩, [Str.ofString "side", Str.ofString "fill", Str.ofString "index"], [Str.ofString "side", Str.ofString "fill"]⟩,
  ⟨20, ⟨("cells_of", none), "cells_of", "cells_of", L2.defArgs (topS 33), L2.defBody (topS 33), L2.defScope (topS 33), [], []⟩, [Str.ofString "side"], [Str.ofString "side"]⟩,
  ⟨21, ⟨("beside", none), "beside", "beside", L2.defArgs (topS 34), L2.defBody (topS 34), L2.defScope (topS 34), [], []⟩, [Str.ofString "side", Str.ofString "cell"], [Str.ofString "side", Str.ofString "cell"]⟩,
  ⟨22, ⟨("meets_all", none), "meets_all", "meets_all", L2.defArgs (topS 35), L2.defBody (topS 35), L2.defScope (topS 35), [], []⟩, [Str.ofString "side", Str.ofString "lot"], [Str.ofString "side", Str.ofString "lot"]⟩,
  ⟨23, ⟨("_law_pool", none), "_law_pool", "_law_pool", L2.defArgs (topS 37), L2.defBody (topS 37), L2.defScope (topS 37), [], []⟩, [Str.ofString "script", Str.ofString "turn", Str.ofString "cell", Str.ofString "own", Str.ofString "stirred"], [Str.ofString "script", Str.ofString "turn"]⟩,
  ⟨24, ⟨("_law_draw", none), "_law_draw", "_law_draw", L2.defArgs (topS 38), L2.defBody (topS 38), L2.defScope (topS 38), [], []⟩, [Str.ofString "pool", Str.ofString "many", Str.ofString "held", Str.ofString "figure"], [Str.ofString "pool", Str.ofString "many"]⟩,
  ⟨25, ⟨("_law_pick", none), "_law_pick", "_law_pick", L2.defArgs (topS 39), L2.defBody (topS 39), L2.defScope (topS 39), [], []⟩, [Str.ofString "pool", Str.ofString "some"], [Str.ofString "pool", Str.ofString "some"]⟩,
  ⟨26, ⟨("_law_places", none), "_law_places", "_law_places", L2.defArgs (topS 40), L2.defBody (topS 40), L2.defScope (topS 40), [], []⟩, [Str.ofString "side", Str.ofString "found", Str.ofString "r", Str.ofString "c"], [Str.ofString "side"]⟩,
  ⟨27, ⟨("_law_near", none), "_law_near", "_law_near", L2.defArgs (topS 41), L2.defBody (topS 41), L2.defScope (topS 41), [], []⟩, [Str.ofString "side", Str.ofString "cell", Str.ofString "cells", Str.ofString "some", Str.ofString "r", Str.ofString "c", Str.ofString "each"], [Str.ofString "side", Str.ofString "cell"]⟩,
  ⟨28, ⟨("_law_hangs", none), "_law_hangs", "_law_hangs", L2.defArgs (topS 42), L2.defBody (topS 42), L2.defScope (topS 42), [], []⟩, [Str.ofString "side", Str.ofString "lot", Str.ofString "here", Str.ofString "step", Str.ofString "cell", Str.ofString "each"], [Str.ofString "side", Str.ofString "lot"]⟩,
  ⟨29, ⟨("_law_meets", none), "_law_meets", "_law_meets", L2.defArgs (topS 43), L2.defBody (topS 43), L2.defScope (topS 43), [], []⟩, [Str.ofString "side", Str.ofString "lot", Str.ofString "cells", Str.ofString "some", Str.ofString "cell", Str.ofString "r", Str.ofString "c"], [Str.ofString "side", Str.ofString "lot"]⟩,
  ⟨30, ⟨("_law_fill", none), "_law_fill", "_law_fill", L2.defArgs (topS 44), L2.defBody (topS 44), L2.defScope (topS 44), [], []⟩, [Str.ofString "pool", Str.ofString "cells", Str.ofString "wide", Str.ofString "cell"], [Str.ofString "pool", Str.ofString "cells"]⟩,
  ⟨31, ⟨("_law_grown", none), "_law_grown", "_law_grown", L2.defArgs (topS 45), L2.defBody (topS 45), L2.defScope (topS 45), [], []⟩, [Str.ofString "pool", Str.ofString "side", Str.ofString "cells", Str.ofString "found", Str.ofString "step", Str.ofString "more", Str.ofString "cell", Str.ofString "each"], [Str.ofString "pool", Str.ofString "side", Str.ofString "cells"]⟩,
  ⟨32, ⟨("_law_right", none), "_law_right", "_law_right", L2.defArgs (topS 46), L2.defBody (topS 46), L2.defScope (topS 46), [], []⟩, [Str.ofString "pool", Str.ofString "side", Str.ofString "cells", Str.ofString "cell", Str.ofString "lot", Str.ofString "due", Str.ofString "each"], [Str.ofString "pool"]⟩,
  ⟨33, ⟨("law", none), "law", "law", L2.defArgs (topS 47), L2.defBody (topS 47), L2.defScope (topS 47), [], []⟩, [Str.ofString "script", Str.ofString "turn"], [Str.ofString "script"]⟩]
def lw : Lw := ⟨dd, kws, globN, nones, prog⟩
theorem lwOk : LwOk lw where
  flat := by decide +kernel
  gl := by decide +kernel
  defs := by decide +kernel
  rep := rfl
theorem law_in : (33, ("law" : Str)) ∈ lw.tn.fns := List.contains_iff_mem.mp (by decide +kernel)
theorem law_ps : ∀ z ∈ lw.dd, z.i = 33 → z.ps = [("script" : Str)] := fun z hz e => by
  have h : (lw.dd.all fun z => z.i != 33 || decide (z.ps = [("script" : Str)])) = true := by decide +kernel
  have q := List.all_eq_true.mp h z hz
  simpa [e] using q
abbrev R : PySem.W.OpenRow := PySem.W.OpenLaw.row PySem.Challenge.rw_joinorbar_k75_whole_neighbours_and_sides
abbrev hk : PySem.W.Hook := hookC 4 lw.all lw.cs lw.fa lw.fn
def ob (s : PySem.W.SharedT) : AlC := obsCG 4 lw.all lw.cs lw.fa lw.fn (HandSHeadRun.getT s)
theorem ob_eq (s : PySem.W.SharedT) : ob s = hk.obs s.abs := obsCG_eq (HandSHeadRun.getT_eq s)
def loose : List Str := [Str.ofString "WebError", Str.ofString "InvalidPlace", Str.ofString "InvalidNumber", Str.ofString "InvalidFill", Str.ofString "is_whole", Str.ofString "is_between", Str.ofString "wrong_in_lot", Str.ofString "all_numbers", Str.ofString "grown", Str.ofString "room_around", Str.ofString "check_number", Str.ofString "pairs_in", Str.ofString "pieces_in", Str.ofString "has_all", Str.ofString "is_whole_piece", Str.ofString "MOST_SIDE", Str.ofString "STEPS", Str.ofString "cells_of_by", Str.ofString "cell_at", Str.ofString "all_spots", Str.ofString "beside_by", Str.ofString "all_near", Str.ofString "three_sides", Str.ofString "meets_all_by", Str.ofString "check_side", Str.ofString "check_three_fill", Str.ofString "cells_of", Str.ofString "beside", Str.ofString "meets_all", Str.ofString "_law_pool", Str.ofString "_law_draw", Str.ofString "_law_pick", Str.ofString "_law_places", Str.ofString "_law_near", Str.ofString "_law_hangs", Str.ofString "_law_meets", Str.ofString "_law_fill", Str.ofString "_law_grown", Str.ofString "_law_right"]
theorem run (w : World) : HandSHeadRun.RunEq R (PySem.W.view R.prog [47]) hk ob 3280 loose w := by
  intro os
  kernel_rfl
end K75
end

section
set_option Elab.async false
set_option linter.all false
set_option maxRecDepth 100000
/-! Pl1: the evaluator's equations, one a construct; calls, comprehensions, loops. Plain Lean. -/
namespace Ev
open PySem (Str)

section
variable {p : Par} {ρ ρ1 ρ2 : Env} {a b c l r lo hi : E} {i : Nat} {w : Nat} {s t : S}
/-- what stands behind a value: simp looks at the value alone -/
class Tok {α : Type} (k : α) : Type where
instance tok {α : Type} (k : α) : Tok k := ⟨⟩
def R.c1 (r : R) (k : Rs → Env → R) [Tok k] : R := match r with
  | .ok r ρ => (match r with
    | .fz d => k (.fz d) ρ
    | .fr d => k (.fr d) ρ
    | .sl i => k (.sl i) ρ
    | _ => .no)
  | .ex c d ρ => .ex c d ρ
  | .no => .no
def R.ca (r : R) (k : List Rs → Env → R) [Tok k] : R := match r with
  | .ok r ρ => (match r with
    | .st ds => k (ds.map .fz) ρ
    | .ls _ => .no
    | .its _ _ => .no
    | r => k [r] ρ)
  | .ex c d ρ => .ex c d ρ
  | .no => .no
def R.co (r : R) (k : Option Int → Env → R) [Tok k] : R := match r with
  | .ok r ρ => (match r with
    | .ls [] => k none ρ
    | r => (match rd r ρ with
      | some (.int i) => k (some i) ρ
      | _ => .no))
  | .ex c d ρ => .ex c d ρ
  | .no => .no
def R.cl (r : R) (k : List Rs → Env → R) [Tok k] : R := match r with
  | .ok (.ls l) ρ => k l ρ
  | .ok _ _ => .no
  | .ex c d ρ => .ex c d ρ
  | .no => .no
def R.ci (r : R) (k : List D → Option Nat → Env → R) [Tok k] : R := match r with
  | .ok (.its l n) ρ => k l n ρ
  | .ok _ _ => .no
  | .ex c d ρ => .ex c d ρ
  | .no => .no
def R.cf (r : R) (k : Rs → Env → F) [Tok k] : F := match r with
  | .ok r ρ => k r ρ
  | .ex c d ρ => .ex c d ρ
  | .no => .no
theorem v_nil : ev p .nil ρ = .ok (.ls []) ρ := by unfold ev; rfl
theorem v_cons : ev p (.cons a b) ρ = (ev p a ρ).ca fun x ρ1 => (ev p b ρ1).cl fun l ρ2 => .ok (.ls (x ++ l)) ρ2 := by
  conv => lhs; unfold ev
  try rfl
theorem v_star : ev p (.star a) ρ = (ev p a ρ).c1 fun x ρ1 => (match (rd x ρ1).bind itemsD with
    | some ds => .ok (.st ds) ρ1
    | none => .no) := by conv => lhs; unfold ev
                         try rfl
theorem v_bor : ev p (.bor i) ρ = (match slot ρ i with
    | some _ => .ok (.bo i) ρ
    | none => .no) := by conv => lhs; unfold ev
                         try rfl
theorem v_lend : ev p (.lend i) ρ = (match slot ρ i with
    | some _ => .ok (.le i) ρ
    | none => .no) := by conv => lhs; unfold ev
                         try rfl
theorem v_var : ev p (.var i) ρ = (match slot ρ i with
    | some _ => .ok (.sl i) ρ
    | none => .no) := by conv => lhs; unfold ev
                         try rfl
theorem v_give : ev p (.give a) ρ = (ev p a ρ).c1 fun x ρ1 => (match x with
    | .fr d => .ok (.gv d) ρ1
    | _ => .no) := by conv => lhs; unfold ev
                      try rfl
theorem v_int {j : Int} : ev p (.int j) ρ = .ok (.fz (.int j)) ρ := by unfold ev; rfl
theorem v_bl {j : Bool} : ev p (.bl j) ρ = .ok (.fz (.bl j)) ρ := by unfold ev; rfl
theorem v_non : ev p .non ρ = .ok (.fz .non) ρ := by unfold ev; rfl
theorem v_str {x : Str} : ev p (.str x) ρ = .ok (.fz (.str x)) ρ := by unfold ev; rfl
theorem v_glob : ev p (.glob i) ρ = (match p.glob[i]? with
    | some d => .ok (.fz d) ρ
    | none => .no) := by conv => lhs; unfold ev
                         try rfl
theorem v_bin {o : Bop} : ev p (.bin o a b) ρ = (ev p a ρ).c1 fun x ρ1 => (ev p b ρ1).c1 fun y ρ2 => (match rd x ρ2, rd y ρ2 with
    | some dx, some dy => ofOpt (binD o dx dy) ρ2
    | _, _ => .no) := by conv => lhs; unfold ev
                         try rfl
theorem v_neg : ev p (.neg a) ρ = (ev p a ρ).c1 fun x ρ1 => (match rd x ρ1 with
    | some (.int i) => .ok (.fz (.int (-i))) ρ1
    | _ => .no) := by conv => lhs; unfold ev
                      try rfl
theorem v_not : ev p (.not a) ρ = (ev p a ρ).c1 fun x ρ1 => (match tests x ρ1 with
    | some b => .ok (.fz (.bl !b)) ρ1
    | none => .no) := by conv => lhs; unfold ev
                         try rfl
theorem v_cmp {o : Cop} : ev p (.cmp a (.link o b .nil)) ρ = (ev p a ρ).c1 fun x ρ1 => (ev p b ρ1).c1 fun y ρ2 => (match rd x ρ2, rd y ρ2 with
    | some dx, some dy => (match cmpD o dx dy with
      | some c => .ok (.fz (.bl c)) ρ2
      | none => .no)
    | _, _ => .no) := by conv => lhs; unfold ev
                         try rfl
theorem v_cmp2 {o o2 : Cop} : ev p (.cmp a (.link o b (.link o2 c .nil))) ρ = (ev p a ρ).c1 fun x ρ1 => (ev p b ρ1).c1 fun y ρ2 => (match rd x ρ2, rd y ρ2 with
    | some dx, some dy => (match cmpD o dx dy with
      | some c1 => if c1 then (ev p c ρ2).c1 fun z ρ3 => (match rd y ρ3, rd z ρ3 with
          | some dy, some dz => (match cmpD o2 dy dz with
            | some c2 => .ok (.fz (.bl c2)) ρ3
            | none => .no)
          | _, _ => .no) else .ok (.fz (.bl false)) ρ2
      | none => .no)
    | _, _ => .no) := by conv => lhs; unfold ev
                         try rfl
theorem v_and : ev p (.and a b) ρ = (ev p a ρ).c1 fun x ρ1 => (match tests x ρ1 with
    | some true => ev p b ρ1
    | some false => .ok x ρ1
    | none => .no) := by conv => lhs; unfold ev
                         try rfl
theorem v_or : ev p (.or a b) ρ = (ev p a ρ).c1 fun x ρ1 => (match tests x ρ1 with
    | some true => .ok x ρ1
    | some false => ev p b ρ1
    | none => .no) := by conv => lhs; unfold ev
                         try rfl
theorem v_ite : ev p (.ite c a b) ρ = (ev p c ρ).c1 fun x ρ1 => (match tests x ρ1 with
    | some true => ev p a ρ1
    | some false => ev p b ρ1
    | none => .no) := by conv => lhs; unfold ev
                         try rfl
theorem v_tup : ev p (.tup l) ρ = (ev p l ρ).cl fun l ρ1 => (match tkAll l ρ1 with
    | some (ds, ρ2) => if ds.length ≤ LIM then .ok (.fz (.tup ds)) ρ2 else .no
    | none => .no) := by conv => lhs; unfold ev
                         try rfl
theorem v_lst : ev p (.lst l) ρ = (ev p l ρ).cl fun l ρ1 => (match tkAll l ρ1 with
    | some (ds, ρ2) => if ds.length ≤ LIM then .ok (.fr (.lst ds)) ρ2 else .no
    | none => .no) := by conv => lhs; unfold ev
                         try rfl
theorem v_ix : ev p (.ix a b) ρ = (ev p a ρ).c1 fun x ρ1 => (ev p b ρ1).c1 fun y ρ2 => (match rd x ρ2, rd y ρ2 with
    | some dx, some dy => (match itemD dx dy with
      | some d => .ok (.fz d) ρ2
      | none => .no)
    | _, _ => .no) := by conv => lhs; unfold ev
                         try rfl
theorem v_sl : ev p (.sl a lo hi) ρ = (ev p a ρ).c1 fun x ρ1 => (ev p lo ρ1).co fun lo ρ2 => (ev p hi ρ2).co fun hi ρ3 => (match rd x ρ3 with
    | some dx => ofOpt (sliceD dx lo hi) ρ3
    | none => .no) := by conv => lhs; unfold ev
                         try rfl
theorem v_call {f : Nat} : ev p (.call f l) ρ = (ev p l ρ).cl fun l ρ1 => runCall p.call f l ρ1 := by
  conv => lhs; unfold ev
  try rfl
theorem v_callK {f : Nat} {perm : List Nat} : ev p (.callK f l perm) ρ = (ev p l ρ).cl fun l ρ1 => (match permD l perm with
    | some l' => runCall p.call f l' ρ1
    | none => .no) := by conv => lhs; unfold ev
                         try rfl
theorem v_bi {o : Bi} : ev p (.bi o l) ρ = (ev p l ρ).cl fun l ρ1 => (match rdAll l ρ1 with
    | some ds => ofOpt (biD p.rep o ds) ρ1
    | none => .no) := by conv => lhs; unfold ev
                         try rfl
theorem v_divmod : ev p (.divmod a b) ρ = (ev p a ρ).c1 fun x ρ1 => (ev p b ρ1).c1 fun y ρ2 => (match rd x ρ2, rd y ρ2 with
    | some (.int i), some (.int j) => if decide (0 < j) && decide (j < 1073741824) then .ok (.fz (.tup [.int (i / j), .int (i % j)])) ρ2 else .no
    | _, _ => .no) := by conv => lhs; unfold ev
                         try rfl
theorem v_mt {m : Mt} : ev p (.mt m a l) ρ = (ev p a ρ).c1 fun x ρ1 => if (rd x ρ1).any (mtAt m) then (ev p l ρ1).cl fun l ρ2 => (match rd x ρ2, rdAll l ρ2 with
    | some dx, some ds => ofOpt (mtD m dx ds) ρ2
    | _, _ => .no) else .no := by conv => lhs; unfold ev
                                  try rfl
theorem v_app : ev p (.mu .append i l) ρ = (match slot ρ i with
    | some s => if isLst s.d then (ev p l ρ).cl fun l ρ1 => (match tkAll l ρ1 with
        | some (ds, ρ2) => (match slot ρ2 i with
          | some (.ow d) => (match muD .append d ds with
            | some (r, d') => .ok (.fz r) (ρ2.set i (some (.ow d')))
            | none => .no)
          | some (.ln d) => (match muD .append d ds with
            | some (r, d') => .ok (.fz r) (ρ2.set i (some (.ln d')))
            | none => .no)
          | _ => .no)
        | none => .no) else .no
    | none => .no) := by conv => lhs; unfold ev
                         try rfl
theorem v_isi {y : Ty} : ev p (.isi a y) ρ = (ev p a ρ).c1 fun x ρ1 => (match (rd x ρ1).bind fun d => isiD d y with
    | some b => .ok (.fz (.bl b)) ρ1
    | none => .no) := by conv => lhs; unfold ev
                         try rfl
theorem v_itP : ev p (.itP a) ρ = (ev p a ρ).c1 fun x ρ1 => (match walkOf x ρ1 with
    | some (l, k) => .ok (.its l k) ρ1
    | none => .no) := by conv => lhs; unfold ev
                         try rfl
theorem v_itR : ev p (.itR l) ρ = (ev p l ρ).cl fun l ρ1 => (match (rdAll l ρ1).bind rangeA with
    | some l => .ok (.its l none) ρ1
    | none => .no) := by conv => lhs; unfold ev
                         try rfl
theorem v_itE : ev p (.itE a) ρ = (ev p a ρ).c1 fun x ρ1 => (match walkOf x ρ1 with
    | some (l, k) => .ok (.its (numbered 0 l) k) ρ1
    | none => .no) := by conv => lhs; unfold ev
                         try rfl
theorem v_rev : ev p (.rev a) ρ = (ev p a ρ).c1 fun x ρ1 => (match rd x ρ1 with
    | some (.lst xs) => .ok (.fr (.lst xs.reverse)) ρ1
    | some (.tup xs) => .ok (.fz (.tup xs.reverse)) ρ1
    | _ => .no) := by conv => lhs; unfold ev
                      try rfl
theorem v_lrng : ev p (.lrng l) ρ = (ev p l ρ).cl fun l ρ1 => (match (rdAll l ρ1).bind rangeD with
    | some ds => if ds.length ≤ LIM then .ok (.fr (.lst ds)) ρ1 else .no
    | none => .no) := by conv => lhs; unfold ev
                         try rfl
theorem v_trng : ev p (.trng l) ρ = (ev p l ρ).cl fun l ρ1 => (match (rdAll l ρ1).bind rangeD with
    | some ds => if ds.length ≤ LIM then .ok (.fz (.tup ds)) ρ1 else .no
    | none => .no) := by conv => lhs; unfold ev
                         try rfl
theorem v_dnil : ev p .dnil ρ = .ok (.st []) ρ := by unfold ev; rfl
theorem v_dkv {k v : E} : ev p (.dkv k v r) ρ = (ev p k ρ).c1 fun x ρ1 => (match tk x ρ1 with
    | some (kd, ρ2) => (ev p v ρ2).c1 fun y ρ3 => (match tk y ρ3 with
      | some (d, ρ4) => (match ev p r ρ4 with
        | .ok (.st l) ρ5 => .ok (.st (.tup [kd, d] :: l)) ρ5
        | _ => .no)
      | none => .no)
    | none => .no) := by conv => lhs; unfold ev
                         try rfl
theorem v_dun : ev p (.dun a r) ρ = (ev p a ρ).c1 fun x ρ1 => (match rd x ρ1 with
    | some (.dct t es) => (match ev p r ρ1 with
        | .ok (.st l) ρ5 => .ok (.st (.dct t es :: l)) ρ5
        | _ => .no)
    | _ => .no) := by conv => lhs; unfold ev
                      try rfl
theorem v_dds {t : Bool} : ev p (.dds t l) ρ = (match ev p l ρ with
    | .ok (.st l) ρ1 => (match dmake t l [] with
      | some r => .ok (.fr (.dct t r)) ρ1
      | none => .no)
    | _ => .no) := by conv => lhs; unfold ev
                      try rfl
theorem v_lc {g : G} {it ifs elt : E} {vs : List Nat} : ev p (.lc g it ifs elt vs) ρ = (ev p it ρ).ci fun l k ρ1 => (match lcGo g (fun ρ => testOf (ev p ifs ρ)) (fun ρ => ev p elt ρ) vs l [] (lock k ρ1) with
    | .ok r ρ2 => .ok r (unlock k ρ1 (back vs ρ1 ρ2))
    | _ => .no) := by conv => lhs; unfold ev
                      try rfl
theorem v_lc2 {g g1 : G} {it ifs it1 ifs1 elt : E} {vs vs1 : List Nat} : ev p (.lc2 g it ifs g1 it1 ifs1 elt vs vs1) ρ = (ev p it ρ).ci fun l k ρ1 =>
    (match lc2Go g (fun ρ => testOf (ev p ifs ρ)) (fun ρ => ev p it1 ρ) (lcGo g1 (fun ρ => testOf (ev p ifs1 ρ)) (fun ρ => ev p elt ρ) vs1) vs l [] (lock k ρ1) with
    | .ok r ρ2 => .ok r (unlock k ρ1 (back vs ρ1 ρ2))
    | _ => .no) := by conv => lhs; unfold ev
                      try rfl
theorem v_dc {t : Bool} {g : G} {it ifs key val : E} {vs : List Nat} : ev p (.dc t g it ifs key val vs) ρ = (ev p it ρ).ci fun l k ρ1 => (match dcGo t g (fun ρ => testOf (ev p ifs ρ)) (fun ρ => ev p key ρ) (fun ρ => ev p val ρ) vs l [] (lock k ρ1) with
    | .ok r ρ2 => .ok r (unlock k ρ1 (back vs ρ1 ρ2))
    | _ => .no) := by conv => lhs; unfold ev
                      try rfl
/-! ### statements -/
theorem w_skip : evS p w .skip ρ = .nx ρ := by unfold evS; rfl
theorem w_seq : evS p w (.seq s t) ρ = (match evS p w s ρ with
    | .nx ρ1 => evS p w t ρ1
    | f => f) := by conv => lhs; unfold evS
                    try rfl
theorem w_ex : evS p w (.ex a) ρ = (ev p a ρ).cf fun x ρ1 => (match x with
    | .ls _ => .no
    | .its _ _ => .no
    | _ => .nx ρ1) := by conv => lhs; unfold evS
                         try rfl
theorem w_asg {g : T} : evS p w (.asg g a) ρ = (ev p a ρ).cf fun x ρ1 => (match tkFr x ρ1 with
    | some (d, fr, ρ2) => asgT p g d fr ρ2
    | none => .no) := by conv => lhs; unfold evS
                         try rfl
theorem w_par {g : G} : evS p w (.par g l) ρ = (ev p l ρ).cf fun x ρ1 => (match x with
    | .ls l => (match tkSl l ρ1 with
      | some (l', ρ2) => (match parG g l' ρ2 with
        | some ρ3 => .nx ρ3
        | none => .no)
      | none => .no)
    | _ => .no) := by conv => lhs; unfold evS
                      try rfl
theorem w_ite : evS p w (.ite c s t) ρ = (ev p c ρ).cf fun x ρ1 => (match tests x ρ1 with
    | some true => evS p w s ρ1
    | some false => evS p w t ρ1
    | none => .no) := by conv => lhs; unfold evS
                         try rfl
theorem w_loop {g : G} {it : E} : evS p w (.loop g it s) ρ = (ev p it ρ).cf fun x ρ1 => (match x with
    | .its l k => (forGo g (fun ρ => evS p w s ρ) l (lock k ρ1)).unlock k ρ1
    | _ => .no) := by conv => lhs; unfold evS
                      try rfl
theorem w_wh : evS p w (.wh c s) ρ = whGo (fun ρ => ev p c ρ) (fun ρ => evS p w s ρ) w ρ := by conv => lhs; unfold evS
theorem w_ret : evS p w (.ret a) ρ = (ev p a ρ).cf fun x ρ1 => (match x with
    | .fz d => .rt (.fz d) ρ1
    | .fr d => .rt (.fr d) ρ1
    | .sl i => .rt (.sl i) ρ1
    | _ => .no) := by conv => lhs; unfold evS
                      try rfl
theorem w_retN : evS p w .retN ρ = .rt (.fz .non) ρ := by unfold evS; rfl
end
theorem call_def {P : Prog} {n f : Nat} {fd : Fn} {as : List Slot} (h : P.fns[f]? = some fd) (hl : as.length = fd.args) :
    callN P (n + 1) f as = finish fd as (evS ⟨callN P n, P.glob, P.rep⟩ P.fuel fd.body (as.map some ++ List.replicate (fd.many - as.length) none)) := by
  conv => lhs; unfold callN
  rw [h]
  simp only [hl, if_true]
/-! ### comprehensions without a change -/
theorem back_self : ∀ (vs : List Nat) (ρ ρ' : Env), hide vs ρ' = hide vs ρ → back vs ρ ρ' = ρ := by
  have hlen : ∀ (vs : List Nat) (ρ : Env), (hide vs ρ).length = ρ.length := fun vs ρ => by
    induction vs with
    | nil => rfl
    | cons v r ih => show ((hide r ρ).set v none).length = _; rw [List.length_set]; exact ih
  have blen : ∀ (vs : List Nat) (ρ0 ρ : Env), (back vs ρ0 ρ).length = ρ.length := fun vs ρ0 ρ => by
    induction vs with
    | nil => rfl
    | cons v r ih => show ((back r ρ0 ρ).set v _).length = _; rw [List.length_set]; exact ih
  have hget : ∀ (vs : List Nat) (ρ : Env) (i : Nat), i ∉ vs → (hide vs ρ)[i]? = ρ[i]? := fun vs ρ i => by
    induction vs with
    | nil => intro _; rfl
    | cons v r ih =>
      intro h
      rw [List.mem_cons, not_or] at h
      show ((hide r ρ).set v none)[i]? = _
      rw [List.getElem?_set_ne (fun z => h.1 z.symm)]
      exact ih h.2
  have bget : ∀ (vs : List Nat) (ρ0 ρ : Env) (i : Nat), i < ρ.length → (back vs ρ0 ρ)[i]? = if i ∈ vs then some (slot ρ0 i) else ρ[i]? := fun vs ρ0 ρ i hi => by
    induction vs with
    | nil => simp [back]
    | cons v r ih =>
      show ((back r ρ0 ρ).set v (slot ρ0 v))[i]? = _
      by_cases e : v = i
      · subst e
        rw [List.getElem?_set_self (by rw [blen]; exact hi), if_pos List.mem_cons_self]
      · rw [List.getElem?_set_ne e, ih]
        by_cases m : i ∈ r
        · rw [if_pos m, if_pos (List.mem_cons_of_mem _ m)]
        · rw [if_neg m, if_neg (fun z => (List.mem_cons.mp z).elim (fun z => e z.symm) m)]
  intro vs ρ ρ' h
  have hl : ρ'.length = ρ.length := by rw [← hlen vs ρ', h, hlen]
  refine List.ext_getElem? fun i => ?_
  by_cases hi : i < ρ.length
  · rw [bget vs ρ ρ' i (by omega)]
    by_cases m : i ∈ vs
    · rw [if_pos m]
      unfold slot
      rw [List.getElem?_eq_getElem hi]
    · rw [if_neg m, ← hget vs ρ' i m, h, hget vs ρ i m]
  · rw [List.getElem?_eq_none (by rw [blen]; omega), List.getElem?_eq_none (by omega)]
/-- a turn of a comprehension: what it adds -/
structure Turn (g : G) (test : Env → Option (Bool × Env)) (elt : Env → R) (vs : List Nat) (ρh : Env) (x : D) (y : Option D) : Prop where
  ex : ∃ ρ1 ρ2 b, asgG g x false ρh = some ρ1 ∧ test ρ1 = some (b, ρ2) ∧ match y with
    | none => b = false ∧ hide vs ρ2 = ρh
    | some d => b = true ∧ ∃ r ρ3 ρ4, elt ρ2 = .ok r ρ3 ∧ tk r ρ3 = some (d, ρ4) ∧ hide vs ρ4 = ρh
theorem lcGo_turns {α : Type} {T : α → D} {g : G} {test : Env → Option (Bool × Env)} {elt : Env → R} {vs : List Nat} {ρh : Env} {φ : α → Option D} : ∀ {l : List α} {acc : List D} {ρ : Env}, hide vs ρ = ρh → (∀ x ∈ l, Turn g test elt vs ρh (T x) (φ x)) → acc.length + l.length ≤ LIM →
    ∃ ρ', lcGo g test elt vs (l.map T) acc ρ = .ok (.fr (.lst (acc ++ l.filterMap φ))) ρ' ∧ hide vs ρ' = ρh
  | [], acc, ρ, h, _, _ => ⟨ρ, by rw [List.map_nil]; unfold lcGo; simp, h⟩
  | x :: l, acc, ρ, h, ht, hl => by
    obtain ⟨ρ1, ρ2, b, e1, e2, e3⟩ := (ht x List.mem_cons_self).ex
    rw [List.length_cons] at hl
    rw [List.map_cons]
    unfold lcGo
    rw [h, e1]
    simp only [e2]
    cases hy : φ x with
    | none =>
      rw [hy] at e3
      obtain ⟨rfl, e4⟩ := e3
      obtain ⟨ρ', q1, q2⟩ := lcGo_turns (acc := acc) (l := l) e4 (fun z hz => ht z (List.mem_cons_of_mem _ hz)) (by omega)
      exact ⟨ρ', by rw [List.filterMap_cons, hy]; exact q1, q2⟩
    | some d =>
      rw [hy] at e3
      obtain ⟨rfl, r, ρ3, ρ4, e4, e5, e6⟩ := e3
      obtain ⟨ρ', q1, q2⟩ := lcGo_turns (acc := acc ++ [d]) (l := l) e6 (fun z hz => ht z (List.mem_cons_of_mem _ hz)) (by rw [List.length_append, List.length_singleton]; omega)
      refine ⟨ρ', ?_, q2⟩
      simp only [e4, e5]
      rw [if_pos (by omega), q1, List.filterMap_cons, hy, List.append_assoc]
      rfl
/-- a comprehension: what it makes -/
theorem lc_val {α : Type} (T : α → D) (φ : α → Option D) {p : Par} {g : G} {it ifs elt : E} {vs : List Nat} {ρ : Env} {l : List α} (hi : ev p it ρ = .ok (.its (l.map T) none) ρ) (ht : ∀ x ∈ l, Turn g (fun ρ => testOf (ev p ifs ρ)) (fun ρ => ev p elt ρ) vs (hide vs ρ) (T x) (φ x)) (hl : l.length ≤ LIM) :
    ev p (.lc g it ifs elt vs) ρ = .ok (.fr (.lst (l.filterMap φ))) ρ := by
  rw [v_lc, hi]
  obtain ⟨ρ', q1, q2⟩ := lcGo_turns (T := T) (acc := []) (l := l) (ρ := ρ) rfl ht (by simpa using hl)
  show (match lcGo g (fun ρ => testOf (ev p ifs ρ)) (fun ρ => ev p elt ρ) vs (l.map T) [] ρ with
    | .ok r ρ2 => R.ok r (back vs ρ ρ2)
    | _ => .no) = _
  rw [q1, List.nil_append]
  show R.ok _ (back vs ρ ρ') = _
  rw [back_self vs ρ ρ' q2]
/-- what one item of the first clause adds -/
def Turn2 (p : Par) (g : G) (ifs : E) (g1 : G) (it1 ifs1 elt : E) (vs vs1 : List Nat) (ρh : Env) (x : D) (ys : List D) : Prop :=
  ∃ ρ1 ρ2 b, asgG g x false ρh = some ρ1 ∧ testOf (ev p ifs ρ1) = some (b, ρ2) ∧ ((b = false ∧ ys = [] ∧ hide vs ρ2 = ρh) ∨ (b = true ∧ ∃ (β : Type) (T : β → D) (m : List β) (ρ3 : Env) (φ : β → Option D), ev p it1 ρ2 = .ok (.its (m.map T) none) ρ3 ∧ m.length ≤ 1000 ∧ ys = m.filterMap φ ∧
      hide vs (hide vs1 ρ3) = ρh ∧ ∀ y ∈ m, Turn g1 (fun ρ => testOf (ev p ifs1 ρ)) (fun ρ => ev p elt ρ) vs1 (hide vs1 ρ3) (T y) (φ y)))
/-- two clauses -/
theorem lc2_val {α : Type} (T : α → D) (ψ : α → List D) {p : Par} {g g1 : G} {it ifs it1 ifs1 elt : E} {vs vs1 : List Nat} {ρ : Env} {l : List α} (hi : ev p it ρ = .ok (.its (l.map T) none) ρ) (hv : ∀ i ∈ vs1, i ∈ vs)
    (ht : ∀ x ∈ l, Turn2 p g ifs g1 it1 ifs1 elt vs vs1 (hide vs ρ) (T x) (ψ x))
    (hl : l.length ≤ 1000) : ev p (.lc2 g it ifs g1 it1 ifs1 elt vs vs1) ρ = .ok (.fr (.lst (l.flatMap ψ))) ρ := by
  have hh : ∀ ρ : Env, hide vs (hide vs1 ρ) = hide vs ρ := fun ρ => by
    have go : ∀ (us : List Nat) (ρ : Env) (i : Nat), slot (hide us ρ) i = if i ∈ us then none else slot ρ i := fun us ρ i => by
      induction us with
      | nil => simp [hide]
      | cons v r ih =>
        show slot ((hide r ρ).set v none) i = _
        by_cases e : v = i
        · subst e
          rw [if_pos List.mem_cons_self]
          unfold slot
          by_cases q : v < (hide r ρ).length
          · rw [List.getElem?_set_self q]
          · rw [List.getElem?_eq_none (by rw [List.length_set]; omega)]
        · have : slot ((hide r ρ).set v none) i = slot (hide r ρ) i := by unfold slot; rw [List.getElem?_set_ne e]
          rw [this, ih]
          by_cases m : i ∈ r
          · rw [if_pos m, if_pos (List.mem_cons_of_mem _ m)]
          · rw [if_neg m, if_neg (fun z => (List.mem_cons.mp z).elim (fun z => e z.symm) m)]
    have len : ∀ (us : List Nat) (ρ : Env), (hide us ρ).length = ρ.length := fun us ρ => by
      induction us with
      | nil => rfl
      | cons v r ih => show ((hide r ρ).set v none).length = _; rw [List.length_set]; exact ih
    refine List.ext_getElem (by rw [len, len, len]) fun i h1 h2 => ?_
    have e : slot (hide vs (hide vs1 ρ)) i = slot (hide vs ρ) i := by
      rw [go, go, go]
      by_cases m : i ∈ vs
      · rw [if_pos m, if_pos m]
      · rw [if_neg m, if_neg m, if_neg (fun z => m (hv i z))]
    unfold slot at e
    rw [List.getElem?_eq_getElem h1, List.getElem?_eq_getElem h2] at e
    exact e
  have main : ∀ (l : List α) (acc : List D) (ρ' : Env), hide vs ρ' = hide vs ρ → (∀ x ∈ l, Turn2 p g ifs g1 it1 ifs1 elt vs vs1 (hide vs ρ) (T x) (ψ x)) → acc.length + 1000 * l.length ≤ 1000000 →
      ∃ ρ'', lc2Go g (fun ρ => testOf (ev p ifs ρ)) (fun ρ => ev p it1 ρ) (lcGo g1 (fun ρ => testOf (ev p ifs1 ρ)) (fun ρ => ev p elt ρ) vs1) vs (l.map T) acc ρ' = .ok (.fr (.lst (acc ++ l.flatMap ψ))) ρ'' ∧ hide vs ρ'' = hide vs ρ := by
    intro l
    induction l with
    | nil => intro acc ρ' h _ _; exact ⟨ρ', by rw [List.map_nil]; unfold lc2Go; simp, h⟩
    | cons x l ih =>
      intro acc ρ' h ht hl
      rw [List.length_cons] at hl
      rw [List.map_cons]
      obtain ⟨ρ1, ρ2, b, e1, e2, e3⟩ := ht x List.mem_cons_self
      unfold lc2Go
      rw [h, e1]
      simp only [e2]
      rcases e3 with ⟨rfl, e3, e4⟩ | ⟨rfl, β, T2, m, ρ3, φ, e3, e4, e5, e6, e7⟩
      · obtain ⟨ρ'', q1, q2⟩ := ih acc ρ2 e4 (fun z hz => ht z (List.mem_cons_of_mem _ hz)) (by omega)
        refine ⟨ρ'', ?_, q2⟩
        simp only [q1, List.flatMap_cons, e3, List.nil_append]
      · obtain ⟨ρ4, q1, q2⟩ := lcGo_turns (T := T2) (acc := acc) (l := m) (ρ := ρ3) rfl e7 (by unfold LIM; omega)
        have hm : (m.filterMap φ).length ≤ m.length := List.length_filterMap_le _ _
        obtain ⟨ρ'', q3, q4⟩ := ih (acc ++ m.filterMap φ) ρ4 (by rw [← hh ρ4, q2]; exact e6) (fun z hz => ht z (List.mem_cons_of_mem _ hz)) (by rw [List.length_append]; omega)
        refine ⟨ρ'', ?_, q4⟩
        simp only [e3, q1, q3, List.flatMap_cons, e5, List.append_assoc]
  rw [v_lc2, hi]
  obtain ⟨ρ', q1, q2⟩ := main l [] ρ rfl ht (by rw [List.length_nil]; omega)
  show (match lc2Go g (fun ρ => testOf (ev p ifs ρ)) (fun ρ => ev p it1 ρ) (lcGo g1 (fun ρ => testOf (ev p ifs1 ρ)) (fun ρ => ev p elt ρ) vs1) vs (l.map T) [] ρ with
    | .ok r ρ2 => R.ok r (back vs ρ ρ2)
    | _ => .no) = _
  rw [q1, List.nil_append]
  show R.ok _ (back vs ρ ρ') = _
  rw [back_self vs ρ ρ' q2]
/-- a turn of a dict comprehension -/
def TurnD (p : Par) (t : Bool) (g : G) (ifs key val : E) (vs : List Nat) (ρh : Env) (x k v : D) : Prop :=
  ∃ ρ1 ρ2 r ρ3 ρ4 r5 ρ5 ρ6, asgG g x false ρh = some ρ1 ∧ testOf (ev p ifs ρ1) = some (true, ρ2) ∧ ev p key ρ2 = .ok r ρ3 ∧ tk r ρ3 = some (k, ρ4) ∧ ev p val ρ4 = .ok r5 ρ5 ∧ tk r5 ρ5 = some (v, ρ6) ∧ keyFits t k = true ∧ hide vs ρ6 = ρh
/-- a dict comprehension -/
theorem dc_val {α : Type} (T κ ν : α → D) {p : Par} {t : Bool} {g : G} {it ifs key val : E} {vs : List Nat} {ρ : Env} {l : List α} (hi : ev p it ρ = .ok (.its (l.map T) none) ρ)
    (ht : ∀ x ∈ l, TurnD p t g ifs key val vs (hide vs ρ) (T x) (κ x) (ν x))
    (hl : l.length ≤ 10000) : ev p (.dc t g it ifs key val vs) ρ = .ok (.fr (.dct t (l.foldl (fun acc x => dput (κ x) (ν x) acc) []))) ρ := by
  have put_len : ∀ (k v : D) (es : List (D × D)), (dput k v es).length ≤ es.length + 1 := fun k v es => by
    unfold dput
    split
    · rw [List.length_map]; omega
    · rw [List.length_append]; simp
  have main : ∀ (l : List α) (acc : List (D × D)) (ρ' : Env), hide vs ρ' = hide vs ρ → (∀ x ∈ l, TurnD p t g ifs key val vs (hide vs ρ) (T x) (κ x) (ν x)) →
      acc.length + l.length ≤ 10000 → ∃ ρ'', dcGo t g (fun ρ => testOf (ev p ifs ρ)) (fun ρ => ev p key ρ) (fun ρ => ev p val ρ) vs (l.map T) acc ρ' = .ok (.fr (.dct t (l.foldl (fun acc x => dput (κ x) (ν x) acc) acc))) ρ'' ∧ hide vs ρ'' = hide vs ρ := by
    intro l
    induction l with
    | nil => intro acc ρ' h _ _; exact ⟨ρ', by rw [List.map_nil]; unfold dcGo; rfl, h⟩
    | cons x l ih =>
      intro acc ρ' h ht hl
      rw [List.length_cons] at hl
      rw [List.map_cons]
      obtain ⟨ρ1, ρ2, r, ρ3, ρ4, r5, ρ5, ρ6, e1, e2, e3, e4, e5, e6, e7, e8⟩ := ht x List.mem_cons_self
      have := put_len (κ x) (ν x) acc
      obtain ⟨ρ'', q1, q2⟩ := ih (dput (κ x) (ν x) acc) ρ6 e8 (fun z hz => ht z (List.mem_cons_of_mem _ hz)) (by omega)
      refine ⟨ρ'', ?_, q2⟩
      unfold dcGo
      rw [h, e1]
      have lt : decide (acc.length < LIM) = true := decide_eq_true (by unfold LIM; omega)
      simp only [e2, e3, e4, e5, e6, e7, lt, Bool.and_self, if_true, q1, List.foldl_cons]
  rw [v_dc, hi]
  obtain ⟨ρ', q1, q2⟩ := main l [] ρ rfl ht (by simpa using hl)
  show (match dcGo t g (fun ρ => testOf (ev p ifs ρ)) (fun ρ => ev p key ρ) (fun ρ => ev p val ρ) vs (l.map T) [] ρ with
    | .ok r ρ2 => R.ok r (back vs ρ ρ2)
    | _ => .no) = _
  rw [q1]
  show R.ok _ (back vs ρ ρ') = _
  rw [back_self vs ρ ρ' q2]
/-! ### loops -/
/-- a for that isn't left: what holds of the names, turn by turn -/
theorem forGo_inv {g : G} {body : Env → F} (I : List D → Env → Prop) : ∀ (l : List D) (pre : List D) (ρ : Env), I pre ρ → (∀ pre x post ρ, pre ++ x :: post = pre ++ x :: post → I pre ρ → ∃ ρ1, asgG g x false ρ = some ρ1 ∧ ∃ ρ2, (body ρ1 = .nx ρ2 ∨ body ρ1 = .ct ρ2) ∧ I (pre ++ [x]) ρ2) →
    ∃ ρ', forGo g body l ρ = .nx ρ' ∧ I (pre ++ l) ρ'
  | [], pre, ρ, h, _ => ⟨ρ, by unfold forGo; rfl, by rw [List.append_nil]; exact h⟩
  | x :: l, pre, ρ, h, ht => by
    obtain ⟨ρ1, e1, ρ2, e2, e3⟩ := ht pre x l ρ rfl h
    obtain ⟨ρ', q1, q2⟩ := forGo_inv I l (pre ++ [x]) ρ2 e3 ht
    refine ⟨ρ', ?_, by rw [List.append_assoc] at q2; exact q2⟩
    unfold forGo
    rw [e1]
    rcases e2 with e2 | e2 <;> simp only [e2, q1]
/-- .. over the items of one list -/
theorem forGo_list {g : G} {body : Env → F} (I : Nat → Env → Prop) (l : List D) (ρ : Env) (h0 : I 0 ρ) (ht : ∀ (i : Nat) (x : D) (ρ : Env), l[i]? = some x → I i ρ → ∃ ρ1, asgG g x false ρ = some ρ1 ∧ ∃ ρ2, (body ρ1 = .nx ρ2 ∨ body ρ1 = .ct ρ2) ∧ I (i + 1) ρ2) :
    ∃ ρ', forGo g body l ρ = .nx ρ' ∧ I l.length ρ' := by
  have go : ∀ (post : List D) (k : Nat) (ρ : Env), l.drop k = post → I k ρ → ∃ ρ', forGo g body post ρ = .nx ρ' ∧ I (k + post.length) ρ' := by
    intro post
    induction post with
    | nil => intro k ρ _ h; exact ⟨ρ, by unfold forGo; rfl, h⟩
    | cons x post ih =>
      intro k ρ e h
      have hx : l[k]? = some x := by
        have : (l.drop k)[0]? = some x := by rw [e]; rfl
        simpa using this
      obtain ⟨ρ1, e1, ρ2, e2, e3⟩ := ht k x ρ hx h
      obtain ⟨ρ', q1, q2⟩ := ih (k + 1) ρ2 (by rw [← List.drop_drop, e]; rfl) e3
      refine ⟨ρ', ?_, by rw [List.length_cons, show k + (post.length + 1) = k + 1 + post.length by omega]; exact q2⟩
      unfold forGo
      rw [e1]
      rcases e2 with e2 | e2 <;> simp only [e2, q1]
  obtain ⟨ρ', q1, q2⟩ := go l 0 ρ rfl h0
  exact ⟨ρ', q1, by simpa using q2⟩
end Ev
end

section
set_option Elab.async false
set_option linter.all false
set_option maxRecDepth 100000
/-! Pl2: lists of numbers, pairs, dicts of numbers, as values. Plain Lean. -/
namespace Ev
open PySem (Str)

/-! ### whiles -/
theorem whGo_inv {test : Env → R} {body : Env → F} (I : Env → Prop) (Q : Env → Prop) (μ : Env → Nat)
    (step : ∀ ρ, I ρ → ∃ x ρ1, test ρ = .ok x ρ1 ∧ ((tests x ρ1 = some false ∧ Q ρ1) ∨ (tests x ρ1 = some true ∧ ∃ ρ2, body ρ1 = .nx ρ2 ∧ I ρ2 ∧ μ ρ2 < μ ρ))) :
    ∀ (n : Nat) (ρ : Env), I ρ → μ ρ < n → ∃ ρ', whGo test body n ρ = .nx ρ' ∧ Q ρ'
  | 0, ρ, _, h => by omega
  | n + 1, ρ, hI, h => by
    obtain ⟨x, ρ1, e1, e2⟩ := step ρ hI
    unfold whGo
    rw [e1]
    rcases e2 with ⟨e2, q⟩ | ⟨e2, ρ2, e3, i2, m⟩
    · refine ⟨ρ1, ?_, q⟩
      simp only [R.fl, e2]
    · obtain ⟨ρ', q1, q2⟩ := whGo_inv I Q μ step n ρ2 i2 (by omega)
      refine ⟨ρ', ?_, q2⟩
      simp only [R.fl, e2, e3, q1]

/-! ### numbers -/
def nats (xs : List Nat) : List D := xs.map fun n : Nat => D.int (n : Int)
@[simp] theorem nats_nil : nats [] = [] := rfl
@[simp] theorem nats_cons (x : Nat) (xs : List Nat) : nats (x :: xs) = .int x :: nats xs := rfl
theorem nats_length (xs : List Nat) : (nats xs).length = xs.length := List.length_map ..
theorem nats_append (xs ys : List Nat) : nats (xs ++ ys) = nats xs ++ nats ys := List.map_append
theorem nats_get (xs : List Nat) (i : Nat) : (nats xs)[i]? = (xs[i]?).map fun n : Nat => D.int (n : Int) := List.getElem?_map ..
theorem eqD_nat (x y : Nat) : eqD (.int (x : Int)) (.int (y : Int)) = decide (x = y) := by
  unfold eqD
  rw [Bool.eq_iff_iff]
  simp
  omega
theorem or_mem {α : Type} [DecidableEq α] (x y : α) (ys : List α) : (decide (y = x) || decide (x ∈ ys)) = decide (x ∈ y :: ys) := by
  rw [Bool.eq_iff_iff, Bool.or_eq_true, decide_eq_true_iff, decide_eq_true_iff, decide_eq_true_iff, List.mem_cons]
  exact ⟨fun h => h.imp Eq.symm id, fun h => h.imp Eq.symm id⟩
theorem eqD_int (x y : Int) : eqD (.int x) (.int y) = decide (x = y) := by
  unfold eqD
  rw [Bool.eq_iff_iff]
  simp
theorem isIn_nats (x : Nat) (xs : List Nat) : isIn (.int (x : Int)) (nats xs) = decide (x ∈ xs) := by
  unfold isIn
  induction xs with
  | nil => rfl
  | cons y ys ih =>
    rw [nats_cons, List.any_cons, ih, eqD_nat]
    exact or_mem x y ys
theorem plainAll_nats (n : Nat) (xs : List Nat) : plainAll n (nats xs) = true := by
  induction xs with
  | nil => rfl
  | cons x xs ih => simp [plainAll, plainN, ih]
theorem plain_int (i : Int) : plain (.int i) = true := by simp [plain, plainN]
theorem plain_bl (b : Bool) : plain (.bl b) = true := by simp [plain, plainN]
theorem plain_tup {ds : List D} : plain (.tup ds) = plainAll 39 ds := by simp [plain, plainN]
theorem plain_lst {ds : List D} : plain (.lst ds) = plainAll 39 ds := by simp [plain, plainN]
theorem plain_nats (xs : List Nat) : plain (.lst (nats xs)) = true := by rw [plain_lst, plainAll_nats]
theorem plain_tnats (xs : List Nat) : plain (.tup (nats xs)) = true := by rw [plain_tup, plainAll_nats]
theorem plainAll_map {α : Type} (n : Nat) (f : α → D) (l : List α) (h : ∀ x ∈ l, plainN n (f x) = true) : plainAll n (l.map f) = true := by
  induction l with
  | nil => rfl
  | cons x l ih => simp only [List.map_cons, plainAll, h x List.mem_cons_self, ih fun y hy => h y (List.mem_cons_of_mem _ hy), Bool.and_self]
theorem upTo_nats : ∀ (n lo : Nat), upTo (lo : Int) n = nats (List.range' lo n)
  | 0, _ => rfl
  | n + 1, lo => by
    show D.int lo :: upTo ((lo : Int) + 1) n = _
    rw [show ((lo : Int) + 1) = ((lo + 1 : Nat) : Int) by omega, upTo_nats n (lo + 1)]
    rfl
theorem upTo0 (n : Nat) : upTo 0 n = nats (List.range n) := by
  rw [List.range_eq_range']
  exact upTo_nats n 0
theorem rangeD1 {n : Nat} (h : n < 1000000) : rangeD [.int (n : Int)] = some (nats (List.range n)) := by
  unfold rangeD
  simp only
  rw [if_pos (by unfold P62; simp; omega), show ((n : Int)).toNat = n by omega, upTo0]
theorem rangeA1 {n : Nat} (h : n < 1000000) : rangeA [.int (n : Int)] = some (nats (List.range n)) := by
  have e : rangeA [.int (n : Int)] = rangeD [.int (n : Int)] := by unfold rangeA; rfl
  rw [e, rangeD1 h]

/-! ### sorting -/
def insBy {α : Type} (lt : α → α → Bool) (x : α) : List α → List α
  | [] => [x]
  | y :: ys => if lt y x then y :: insBy lt x ys else x :: y :: ys
def sortBy {α : Type} (lt : α → α → Bool) : List α → List α
  | [] => []
  | x :: xs => insBy lt x (sortBy lt xs)
theorem insBy_map {α : Type} (f : α → D) (x : α) (l : List α) : ins (f x) (l.map f) = (insBy (fun a b => ltD (f a) (f b)) x l).map f := by
  induction l with
  | nil => rfl
  | cons y ys ih =>
    rw [List.map_cons]
    show (if ltD (f y) (f x) then f y :: ins (f x) (ys.map f) else f x :: f y :: ys.map f) = (if ltD (f y) (f x) then y :: insBy _ x ys else x :: y :: ys).map f
    by_cases h : ltD (f y) (f x) = true
    · rw [if_pos h, if_pos h, ih, List.map_cons]
    · rw [if_neg h, if_neg h, List.map_cons, List.map_cons]
theorem sortBy_map {α : Type} (f : α → D) (l : List α) : isort (l.map f) = (sortBy (fun a b => ltD (f a) (f b)) l).map f := by
  induction l with
  | nil => rfl
  | cons x xs ih =>
    rw [List.map_cons]
    show ins (f x) (isort (xs.map f)) = _
    rw [ih, insBy_map]
    rfl
theorem insBy_perm {α : Type} (lt : α → α → Bool) (x : α) (l : List α) : (insBy lt x l).Perm (x :: l) := by
  induction l with
  | nil => exact .refl _
  | cons y ys ih =>
    unfold insBy
    split
    · exact (ih.cons y).trans (List.Perm.swap x y ys)
    · exact .refl _
theorem sortBy_perm {α : Type} (lt : α → α → Bool) (l : List α) : (sortBy lt l).Perm l := by
  induction l with
  | nil => exact .refl _
  | cons x xs ih => exact (insBy_perm lt x _).trans (ih.cons x)
/-- rising numbers -/
abbrev Up (l : List Nat) : Prop := l.Pairwise (· < ·)
def ltN (a b : Nat) : Bool := decide (a < b)
theorem ltD_nat (a b : Nat) : ltD (.int (a : Int)) (.int (b : Int)) = ltN a b := by
  unfold ltD ltN
  rw [Bool.eq_iff_iff]
  simp
def sortN (l : List Nat) : List Nat := sortBy ltN l
theorem isort_nats (l : List Nat) : isort (nats l) = nats (sortN l) := by
  unfold nats sortN
  rw [sortBy_map]
  have : (fun a b : Nat => ltD (.int (a : Int)) (.int (b : Int))) = ltN := funext fun a => funext fun b => ltD_nat a b
  rw [this]
theorem insBy_le {x : Nat} {l : List Nat} (h : l.Pairwise (· ≤ ·)) : (insBy ltN x l).Pairwise (· ≤ ·) := by
  induction l with
  | nil => simp [insBy]
  | cons y ys ih =>
    rw [List.pairwise_cons] at h
    unfold insBy
    split
    · rename_i q
      have q : y < x := by simpa [ltN] using q
      rw [List.pairwise_cons]
      refine ⟨fun z hz => ?_, ih h.2⟩
      rcases List.mem_cons.mp ((insBy_perm ltN x ys).mem_iff.mp hz) with e | e
      · omega
      · exact h.1 z e
    · rename_i q
      have q : ¬ y < x := by simpa [ltN] using q
      rw [List.pairwise_cons]
      refine ⟨fun z hz => ?_, by rw [List.pairwise_cons]; exact h⟩
      rcases List.mem_cons.mp hz with e | e
      · omega
      · have := h.1 z e; omega
theorem sortN_le (l : List Nat) : (sortN l).Pairwise (· ≤ ·) := by
  induction l with
  | nil => simp [sortN, sortBy]
  | cons x xs ih => exact insBy_le ih
theorem sortN_mem {l : List Nat} {x : Nat} : x ∈ sortN l ↔ x ∈ l := (sortBy_perm ltN l).mem_iff
theorem sortN_length (l : List Nat) : (sortN l).length = l.length := (sortBy_perm ltN l).length_eq
theorem sortN_up {l : List Nat} (h : l.Nodup) : Up (sortN l) := by
  have h1 := sortN_le l
  have h2 : (sortN l).Nodup := (sortBy_perm ltN l).nodup_iff.mpr h
  exact (h1.and h2).imp fun ⟨a, b⟩ => by omega
theorem up_nodup {l : List Nat} (h : Up l) : l.Nodup := h.imp fun q => by omega
/-- rising lists of the same numbers are the same -/
theorem up_ext : ∀ {l m : List Nat}, Up l → Up m → (∀ x, x ∈ l ↔ x ∈ m) → l = m
  | [], [], _, _, _ => rfl
  | [], y :: m, _, _, h => absurd ((h y).mpr List.mem_cons_self) (by simp)
  | x :: l, [], _, _, h => absurd ((h x).mp List.mem_cons_self) (by simp)
  | x :: l, y :: m, h1, h2, h => by
    rw [Up, List.pairwise_cons] at h1 h2
    have e : x = y := by
      have a := (h x).mp List.mem_cons_self
      have b := (h y).mpr List.mem_cons_self
      rcases List.mem_cons.mp a with a | a
      · exact a
      · rcases List.mem_cons.mp b with b | b
        · exact b.symm
        · have := h1.1 y b; have := h2.1 x a; omega
    subst e
    rw [up_ext h1.2 h2.2 fun z => ?_]
    have q := h z
    rw [List.mem_cons, List.mem_cons] at q
    constructor
    · intro hz
      rcases q.mp (.inr hz) with e | e
      · have := h1.1 z hz; omega
      · exact e
    · intro hz
      rcases q.mpr (.inr hz) with e | e
      · have := h2.1 z hz; omega
      · exact e
theorem sortN_self {l : List Nat} (h : Up l) : sortN l = l := up_ext (sortN_up (up_nodup h)) h fun _ => sortN_mem
theorem allAlike_nats (l : List Nat) : allAlike (nats l) = true := by
  unfold allAlike nats
  simp [alikeD]
theorem sortable_nats (l : List Nat) : sortable (nats l) = true := by
  unfold sortable nats
  simp
theorem sortD_nats (l : List Nat) : sortD (nats l) = some (.fr (.lst (nats (sortN l)))) := by
  unfold sortD
  rw [plain_nats, allAlike_nats, sortable_nats, isort_nats]
  rfl
/-! ### lists of lists -/
def tup (xs : List Nat) : D := .tup (nats xs)
def tups (l : List (List Nat)) : List D := l.map tup
theorem alikeL_nats : ∀ xs ys : List Nat, alikeL (nats xs) (nats ys) = true
  | [], _ => by simp [alikeL]
  | _ :: _, [] => by simp [alikeL]
  | x :: xs, y :: ys => by simp [alikeL, alikeD, alikeL_nats xs ys]
theorem allAlike_tups (l : List (List Nat)) : allAlike (tups l) = true := by
  unfold allAlike tups
  rw [List.all_eq_true]
  intro x hx
  rw [List.all_eq_true]
  intro y hy
  obtain ⟨a, _, rfl⟩ := List.mem_map.mp hx
  obtain ⟨b, _, rfl⟩ := List.mem_map.mp hy
  simp only [tup, alikeD]
  exact alikeL_nats a b
theorem plain_tups (l : List (List Nat)) : plain (.lst (tups l)) = true := by
  rw [plain_lst]
  exact plainAll_map 39 tup l fun x _ => by simp [tup, plainN, plainAll_nats]
theorem sortable_tups {l : List (List Nat)} (h : ∀ x ∈ l, x ≠ []) : sortable (tups l) = true := by
  unfold sortable
  rw [Bool.or_eq_true]
  refine .inl (List.all_eq_true.mpr fun x hx => ?_)
  obtain ⟨a, ha, rfl⟩ := List.mem_map.mp hx
  cases a with
  | nil => exact absurd rfl (h [] ha)
  | cons b r => rfl
def ltT (a b : List Nat) : Bool := ltD (tup a) (tup b)
theorem sortD_tups {l : List (List Nat)} (h : ∀ x ∈ l, x ≠ []) : sortD (tups l) = some (.fr (.lst (tups (sortBy ltT l)))) := by
  unfold sortD
  rw [plain_tups, allAlike_tups, sortable_tups h]
  unfold tups
  rw [sortBy_map]
  rfl
theorem eqAll_nats : ∀ xs ys : List Nat, eqAll (nats xs) (nats ys) = decide (xs = ys)
  | [], [] => by simp [eqAll]
  | [], _ :: _ => by simp [eqAll]
  | _ :: _, [] => by simp [eqAll]
  | x :: xs, y :: ys => by
    rw [nats_cons, nats_cons, eqAll, eqD_nat, eqAll_nats xs ys, Bool.eq_iff_iff]
    simp
theorem eqD_tup (xs ys : List Nat) : eqD (tup xs) (tup ys) = decide (xs = ys) := by
  unfold tup eqD
  exact eqAll_nats xs ys

/-! ### dicts whose values are all True -/
def keysD (f : α → D) (l : List α) : List (D × D) := l.map fun k => (f k, .bl true)
def addK {α : Type} [DecidableEq α] (l : List α) (k : α) : List α := if k ∈ l then l else l ++ [k]
theorem dput_keys {α : Type} [DecidableEq α] (f : α → D) (hf : ∀ a b, eqD (f a) (f b) = decide (a = b)) (k : α) (l : List α) : dput (f k) (.bl true) (keysD f l) = keysD f (addK l k) := by
  have h1 : (keysD f l).any (fun e => keyEq e.1 (f k)) = decide (k ∈ l) := by
    unfold keysD keyEq
    induction l with
    | nil => rfl
    | cons a l ih =>
      rw [List.map_cons, List.any_cons, ih, hf]
      exact or_mem k a l
  unfold dput addK
  rw [h1]
  by_cases q : k ∈ l
  · rw [if_pos (decide_eq_true q), if_pos q]
    unfold keysD
    rw [List.map_map]
    refine List.map_congr_left fun a _ => ?_
    show (if keyEq (f a) (f k) = true then (f a, D.bl true) else (f a, .bl true)) = _
    split <;> rfl
  · rw [if_neg (by simpa using q), if_neg q]
    unfold keysD
    rw [List.map_append]
    rfl
theorem addK_length {α : Type} [DecidableEq α] (l : List α) (k : α) : (addK l k).length ≤ l.length + 1 := by
  unfold addK
  split
  · omega
  · rw [List.length_append]; simp
theorem dputs_keys {α : Type} [DecidableEq α] (t : Bool) (f : α → D) (hf : ∀ a b, eqD (f a) (f b) = decide (a = b)) (hk : ∀ a, keyFits t (f a) = true) : ∀ (more l : List α), l.length + more.length ≤ LIM → dputs t (keysD f more) (keysD f l) = some (keysD f (more.foldl addK l))
  | [], l, _ => rfl
  | k :: more, l, h => by
    rw [List.length_cons] at h
    show dputs t ((f k, .bl true) :: keysD f more) (keysD f l) = _
    unfold dputs
    have e : (keysD f l).length = l.length := List.length_map ..
    have := addK_length l k
    rw [hk, e, decide_eq_true (by omega : l.length < LIM), dput_keys f hf, Bool.and_self, if_pos rfl, dputs_keys t f hf hk more (addK l k) (by omega), List.foldl_cons]
theorem addK_mem {α : Type} [DecidableEq α] {l : List α} {k x : α} : x ∈ addK l k ↔ x ∈ l ∨ x = k := by
  unfold addK
  split
  · rename_i h
    constructor
    · exact .inl
    · rintro (h' | rfl)
      · exact h'
      · exact h
  · simp
theorem addK_nodup {α : Type} [DecidableEq α] {l : List α} {k : α} (h : l.Nodup) : (addK l k).Nodup := by
  unfold addK
  split
  · exact h
  · rename_i q
    rw [List.nodup_append]
    exact ⟨h, by simp, fun a ha b hb e => by
      rw [List.mem_singleton] at hb
      subst hb; subst e
      exact q ha⟩
theorem addAll_mem {α : Type} [DecidableEq α] : ∀ {more l : List α} {x : α}, x ∈ more.foldl addK l ↔ x ∈ l ∨ x ∈ more
  | [], l, x => by simp
  | k :: more, l, x => by
    rw [List.foldl_cons, addAll_mem, addK_mem, List.mem_cons]
    constructor
    · rintro ((h | h) | h)
      · exact .inl h
      · exact .inr (.inl h)
      · exact .inr (.inr h)
    · rintro (h | h | h)
      · exact .inl (.inl h)
      · exact .inl (.inr h)
      · exact .inr h
theorem addAll_nodup {α : Type} [DecidableEq α] : ∀ {more l : List α}, l.Nodup → (more.foldl addK l).Nodup
  | [], l, h => h
  | k :: more, l, h => addAll_nodup (more := more) (addK_nodup h)
theorem addAll_prefix {α : Type} [DecidableEq α] : ∀ (more l : List α), ∃ r, more.foldl addK l = l ++ r
  | [], l => ⟨[], by simp⟩
  | k :: more, l => by
    obtain ⟨r, h⟩ := addAll_prefix more (addK l k)
    unfold addK at h
    rw [List.foldl_cons]
    by_cases q : k ∈ l
    · rw [if_pos q] at h
      exact ⟨r, by unfold addK; rw [if_pos q]; exact h⟩
    · rw [if_neg q] at h
      exact ⟨k :: r, by unfold addK; rw [if_neg q, h, List.append_assoc]; rfl⟩
theorem addAll_new {α : Type} [DecidableEq α] : ∀ {more : List α}, more.Nodup → more.foldl addK [] = more := by
  have go : ∀ (more l : List α), (l ++ more).Nodup → more.foldl addK l = l ++ more := by
    intro more
    induction more with
    | nil => intro l _; simp
    | cons k more ih =>
      intro l h
      rw [List.foldl_cons]
      have q : k ∉ l := fun z => by
        rw [List.nodup_append] at h
        exact h.2.2 k z k List.mem_cons_self rfl
      have e : addK l k = l ++ [k] := by unfold addK; rw [if_neg q]
      rw [e, ih (l ++ [k]) (by rw [List.append_assoc]; exact h), List.append_assoc]
      rfl
  exact fun {more} h => go more [] h
def dictN (l : List Nat) : D := .dct false (keysD (fun k : Nat => D.int (k : Int)) l)
def dictT (l : List (List Nat)) : D := .dct true (keysD tup l)
theorem dget_keys {α : Type} [DecidableEq α] (f : α → D) (hf : ∀ a b, eqD (f a) (f b) = decide (a = b)) (k : α) (l : List α) : (dget (f k) (keysD f l)).isSome = decide (k ∈ l) := by
  unfold keysD
  induction l with
  | nil => rfl
  | cons a l ih =>
    rw [List.map_cons]
    unfold dget keyEq
    rw [hf]
    by_cases h : a = k
    · subst h; simp
    · rw [if_neg (by simpa using h), ih, Bool.eq_iff_iff]
      simp [Ne.symm h]
theorem isKeyT_tup (xs : List Nat) : isKeyT (tup xs) = true := by
  unfold isKeyT tup nats
  simp [isKey0]
end Ev
end

section
set_option Elab.async false
set_option linter.all false
set_option maxRecDepth 100000
/-! Pl3: what hangs together. Plain Lean. -/
namespace Ev

theorem nodup_le {α : Type} [DecidableEq α] : ∀ {l m : List α}, l.Nodup → (∀ x ∈ l, x ∈ m) → l.length ≤ m.length
  | [], m, _, _ => Nat.zero_le _
  | a :: l, m, h, s => by
    rw [List.nodup_cons] at h
    have ha := s a List.mem_cons_self
    have := nodup_le (m := m.erase a) h.2 fun x hx => (List.mem_erase_of_ne (fun e => h.1 (by rw [← e]; exact hx))).mpr (s x (List.mem_cons_of_mem _ hx))
    have hl : (m.erase a).length = m.length - 1 := List.length_erase_of_mem ha
    have : 0 < m.length := List.length_pos_of_mem ha
    rw [List.length_cons]
    omega
/-- nothing is lacking -/
theorem nodup_all {α : Type} [DecidableEq α] {l m : List α} (hl : l.Nodup) (hm : m.Nodup) (s : ∀ x ∈ l, x ∈ m) (e : m.length ≤ l.length) : ∀ x ∈ m, x ∈ l := fun x hx => by
  by_cases q : x ∈ l
  · exact q
  · have : (x :: l).length ≤ m.length := nodup_le (List.nodup_cons.mpr ⟨q, hl⟩) fun y hy => (List.mem_cons.mp hy).elim (fun e => by rw [e]; exact hx) (s y)
    rw [List.length_cons] at this
    omega

abbrev Prs := List (Nat × Nat)
/-- one leads to the other -/
def Adj (E : Prs) (b c : Nat) : Prop := (b, c) ∈ E ∨ (c, b) ∈ E
instance (E : Prs) (b c : Nat) : Decidable (Adj E b c) := inferInstanceAs (Decidable (_ ∨ _))
inductive Reach (E : Prs) (a : Nat) : Nat → Prop
  | refl : Reach E a a
  | step {b c : Nat} : Reach E a b → Adj E b c → Reach E a c
theorem Adj.symm {E : Prs} {b c : Nat} (h : Adj E b c) : Adj E c b := h.elim .inr .inl
theorem Reach.trans {E : Prs} {a b c : Nat} (h : Reach E a b) (k : Reach E b c) : Reach E a c := by
  induction k with
  | refl => exact h
  | step _ q ih => exact ih.step q
theorem Reach.symm {E : Prs} {a b : Nat} (h : Reach E a b) : Reach E b a := by
  induction h with
  | refl => exact .refl
  | step _ q ih => exact (Reach.refl.step q.symm).trans ih
theorem Reach.mono {E F : Prs} (s : ∀ b c, Adj E b c → Adj F b c) {a b : Nat} (h : Reach E a b) : Reach F a b := by
  induction h with
  | refl => exact .refl
  | step _ q ih => exact ih.step (s _ _ q)
def Closed (E : Prs) (S : List Nat) : Prop := ∀ b ∈ S, ∀ c, Adj E b c → c ∈ S
theorem Closed.reach {E : Prs} {S : List Nat} (h : Closed E S) {a b : Nat} (ha : a ∈ S) (r : Reach E a b) : b ∈ S := by
  induction r with
  | refl => exact ha
  | step _ q ih => exact h _ ih _ q
open Classical in
/-- all that hangs together with one, ascending -/
noncomputable def roomOf (N : Nat) (E : Prs) (a : Nat) : List Nat := (List.range N).filter fun b => decide (Reach E a b)
theorem range_up (N : Nat) : Up (List.range N) := List.pairwise_lt_range
theorem filter_up {p : Nat → Bool} {l : List Nat} (h : Up l) : Up (l.filter p) := List.Pairwise.filter p h
theorem roomOf_up (N : Nat) (E : Prs) (a : Nat) : Up (roomOf N E a) := filter_up (range_up N)
theorem roomOf_mem {N : Nat} {E : Prs} {a b : Nat} : b ∈ roomOf N E a ↔ b < N ∧ Reach E a b := by
  unfold roomOf
  rw [List.mem_filter, List.mem_range]
  simp
def Under (N : Nat) (E : Prs) : Prop := ∀ q ∈ E, q.1 < N ∧ q.2 < N
theorem Adj.under {N : Nat} {E : Prs} (h : Under N E) {b c : Nat} (q : Adj E b c) : c < N := q.elim (fun z => (h _ z).2) fun z => (h _ z).1
theorem Reach.under {N : Nat} {E : Prs} (h : Under N E) {a b : Nat} (ha : a < N) (r : Reach E a b) : b < N := by
  cases r with
  | refl => exact ha
  | step _ q => exact q.under h
theorem room_eq {N : Nat} {E : Prs} {a : Nat} {S : List Nat} (hu : Under N E) (ha : a < N) (nd : S.Nodup) (m : a ∈ S) (cl : Closed E S) (rs : ∀ b ∈ S, Reach E a b) : sortN S = roomOf N E a :=
  up_ext (sortN_up nd) (roomOf_up N E a) fun b => by
    rw [sortN_mem, roomOf_mem]
    exact ⟨fun h => ⟨(rs b h).under hu ha, rs b h⟩, fun h => cl.reach m h.2⟩

/-! ### one round -/
def nearL (room : List Nat) (E : Prs) : List Nat := E.flatMap fun q => if q.1 ∈ room ∨ q.2 ∈ room then [q.1, q.2] else []
def growK (room : List Nat) (E : Prs) : List Nat := ((nearL room E).foldl addK []).foldl addK room
theorem nearL_mem {room : List Nat} {E : Prs} {x : Nat} : x ∈ nearL room E ↔ ∃ q ∈ E, (q.1 ∈ room ∨ q.2 ∈ room) ∧ (x = q.1 ∨ x = q.2) := by
  unfold nearL
  rw [List.mem_flatMap]
  constructor
  · rintro ⟨q, h1, h2⟩
    by_cases c : q.1 ∈ room ∨ q.2 ∈ room
    · rw [if_pos c] at h2
      exact ⟨q, h1, c, by simpa using h2⟩
    · rw [if_neg c] at h2; cases h2
  · rintro ⟨q, h1, c, h2⟩
    exact ⟨q, h1, by rw [if_pos c]; simpa using h2⟩
theorem growK_mem {room : List Nat} {E : Prs} {x : Nat} : x ∈ growK room E ↔ x ∈ room ∨ x ∈ nearL room E := by
  unfold growK
  rw [addAll_mem, addAll_mem]
  simp
theorem growK_nodup {room : List Nat} {E : Prs} (h : room.Nodup) : (growK room E).Nodup := addAll_nodup h
theorem growK_closed {room : List Nat} {E : Prs} (h : room.Nodup) (l : (growK room E).length ≤ room.length) : Closed E room := fun b hb c q => by
  refine nodup_all h (growK_nodup h) (fun x hx => growK_mem.mpr (.inl hx)) l c (growK_mem.mpr (.inr (nearL_mem.mpr ?_)))
  rcases q with q | q
  · exact ⟨(b, c), q, .inl hb, .inr rfl⟩
  · exact ⟨(c, b), q, .inr hb, .inl rfl⟩
theorem growK_reach {room : List Nat} {E : Prs} {a : Nat} (h : ∀ b ∈ room, Reach E a b) : ∀ b ∈ growK room E, Reach E a b := fun b hb => by
  rcases growK_mem.mp hb with z | z
  · exact h b z
  · obtain ⟨q, h1, h2, h3⟩ := nearL_mem.mp z
    rcases h2 with h2 | h2
    · rcases h3 with rfl | rfl
      · exact h _ h2
      · exact (h _ h2).step (.inl h1)
    · rcases h3 with rfl | rfl
      · exact (h _ h2).step (.inr h1)
      · exact h _ h2
def ends (E : Prs) : List Nat := E.flatMap fun q => [q.1, q.2]
theorem ends_mem {E : Prs} {x : Nat} : x ∈ ends E ↔ ∃ q ∈ E, x = q.1 ∨ x = q.2 := by
  unfold ends
  rw [List.mem_flatMap]
  simp
theorem ends_length (E : Prs) : (ends E).length = 2 * E.length := by
  unfold ends
  induction E with
  | nil => rfl
  | cons q E ih => rw [List.flatMap_cons, List.length_append, ih, List.length_cons, List.length_cons, List.length_cons, List.length_nil]; omega
theorem Reach.ends {E : Prs} {a b : Nat} (h : Reach E a b) : b = a ∨ b ∈ ends E := by
  cases h with
  | refl => exact .inl rfl
  | step _ q =>
    refine .inr (ends_mem.mpr ?_)
    rcases q with q | q
    · exact ⟨_, q, .inr rfl⟩
    · exact ⟨_, q, .inl rfl⟩
theorem reach_length {E : Prs} {a : Nat} {S : List Nat} (nd : S.Nodup) (h : ∀ b ∈ S, Reach E a b) : S.length ≤ 2 * E.length + 1 := by
  have := nodup_le (m := a :: Ev.ends E) nd fun x hx => by
    rcases (h x hx).ends with e | e
    · exact List.mem_cons.mpr (.inl e)
    · exact List.mem_cons_of_mem _ e
  rw [List.length_cons, ends_length] at this
  exact this
end Ev
namespace Ev
/-! ### comparisons of numbers -/
theorem c_lt (a b : Int) : cmpD .lt (.int a) (.int b) = some (decide (a < b)) := rfl
theorem c_le (a b : Int) : cmpD .le (.int a) (.int b) = some (decide (a ≤ b)) := rfl
theorem c_gt (a b : Int) : cmpD .gt (.int a) (.int b) = some (decide (b < a)) := rfl
theorem c_ge (a b : Int) : cmpD .ge (.int a) (.int b) = some (decide (b ≤ a)) := rfl
theorem c_eqI (a b : Int) : cmpD .eq (.int a) (.int b) = some (decide (a = b)) := by
  unfold cmpD
  simp only [plain_int, Bool.and_self, if_true, eqD_int]
theorem c_neI (a b : Int) : cmpD .ne (.int a) (.int b) = some (!decide (a = b)) := by
  unfold cmpD
  simp only [plain_int, Bool.and_self, if_true, eqD_int]
theorem c_inL (k : Nat) (l : List Nat) : cmpD .isin (.int (k : Int)) (.lst (nats l)) = some (decide (k ∈ l)) := by
  unfold cmpD
  simp only [plain_int, plain_nats, Bool.and_self, if_true, isIn_nats]
theorem c_inT (k : Nat) (l : List Nat) : cmpD .isin (.int (k : Int)) (.tup (nats l)) = some (decide (k ∈ l)) := by
  unfold cmpD
  simp only [plain_int, plain_tnats, Bool.and_self, if_true, isIn_nats]
theorem c_ninL (k : Nat) (l : List Nat) : cmpD .notin (.int (k : Int)) (.lst (nats l)) = some (!decide (k ∈ l)) := by
  unfold cmpD
  simp only [plain_int, plain_nats, Bool.and_self, if_true, isIn_nats]
theorem c_ninT (k : Nat) (l : List Nat) : cmpD .notin (.int (k : Int)) (.tup (nats l)) = some (!decide (k ∈ l)) := by
  unfold cmpD
  simp only [plain_int, plain_tnats, Bool.and_self, if_true, isIn_nats]
theorem keyNat (k : Nat) : keyFits false (.int (k : Int)) = true := rfl
theorem dget_nat (k : Nat) (l : List Nat) : (dget (.int (k : Int)) (keysD (fun k : Nat => D.int (k : Int)) l)).isSome = decide (k ∈ l) := dget_keys _ eqD_nat k l
theorem c_inD (k : Nat) (l : List Nat) : cmpD .isin (.int (k : Int)) (dictN l) = some (decide (k ∈ l)) := by
  unfold cmpD dictN
  simp only [keyNat, if_true, dget_nat]
theorem len_dictN (l : List Nat) : bLen [dictN l] = some (.fz (.int (l.length : Int))) := by
  unfold bLen dictN keysD
  simp
theorem c_neL (l : List D) (h : plainAll 39 l = true) : cmpD .ne (.lst l) (.lst []) = some (!l.isEmpty) := by
  have e : eqD (.lst l) (.lst []) = l.isEmpty := by
    cases l with
    | nil => rfl
    | cons a r => rfl
  show (if plain (.lst l) && plain (.lst []) then some (!eqD (.lst l) (.lst [])) else none) = _
  rw [plain_lst, h, e]
  rfl
theorem c_neT (l : List D) (h : plainAll 39 l = true) : cmpD .ne (.tup l) (.tup []) = some (!l.isEmpty) := by
  have e : eqD (.tup l) (.tup []) = l.isEmpty := by
    cases l with
    | nil => rfl
    | cons a r => rfl
  show (if plain (.tup l) && plain (.tup []) then some (!eqD (.tup l) (.tup [])) else none) = _
  rw [plain_tup, h, e]
  rfl
theorem unite (a b : List Nat) (na : a.Nodup) (h : a.length + b.length ≤ 1000000) : dmake false [dictN a, dictN b] [] = some (keysD (fun k : Nat => D.int (k : Int)) (b.foldl addK a)) := by
  have L : ∀ l : List Nat, (keysD (fun k : Nat => D.int (k : Int)) l).length = l.length := fun l => List.length_map ..
  have e1 : dputs false (keysD (fun k : Nat => D.int (k : Int)) a) [] = some (keysD (fun k : Nat => D.int (k : Int)) a) := by
    have := dputs_keys false (fun k : Nat => D.int (k : Int)) eqD_nat (fun _ => rfl) a [] (by unfold LIM; simp; omega)
    rw [addAll_new na] at this
    exact this
  have e2 := dputs_keys false (fun k : Nat => D.int (k : Int)) eqD_nat (fun _ => rfl) b a (by unfold LIM; omega)
  have l1 : decide (([] : List (D × D)).length + (keysD (fun k : Nat => D.int (k : Int)) a).length ≤ LIM) = true := decide_eq_true (by rw [L]; unfold LIM; simp; omega)
  have l2 : decide ((keysD (fun k : Nat => D.int (k : Int)) a).length + (keysD (fun k : Nat => D.int (k : Int)) b).length ≤ LIM) = true := decide_eq_true (by rw [L, L]; unfold LIM; omega)
  unfold dictN
  simp only [dmake, l1, e1, l2, e2, beq_self_eq_true, Bool.and_self, if_true]
theorem fold_keysN (xs l : List Nat) : xs.foldl (fun acc (x : Nat) => dput (.int (x : Int)) (.bl true) acc) (keysD (fun k : Nat => D.int (k : Int)) l) = keysD (fun k : Nat => D.int (k : Int)) (xs.foldl addK l) := by
  induction xs generalizing l with
  | nil => rfl
  | cons x xs ih =>
    rw [List.foldl_cons, List.foldl_cons, ← ih]
    congr 1
    exact dput_keys (fun k : Nat => D.int (k : Int)) eqD_nat x l
theorem b_tupL (xs : List D) : bTuple [.lst xs] = some (.fz (.tup xs)) := rfl
theorem b_tupT (xs : List D) : bTuple [.tup xs] = some (.fz (.tup xs)) := rfl
theorem keysD_fst {α : Type} (f : α → D) (l : List α) : (keysD f l).map (·.1) = l.map f := by
  unfold keysD
  rw [List.map_map]
  rfl
theorem b_sortN (l : List Nat) : bSorted [.lst (nats l)] = some (.fr (.lst (nats (sortN l)))) := sortD_nats l
theorem b_sortD (l : List Nat) : bSorted [dictN l] = some (.fr (.lst (nats (sortN l)))) := by
  show sortD ((keysD (fun k : Nat => D.int (k : Int)) l).map (·.1)) = _
  rw [keysD_fst]
  exact sortD_nats l
theorem b_sortT (l : List (List Nat)) (h : ∀ x ∈ l, x ≠ []) : bSorted [dictT l] = some (.fr (.lst (tups (sortBy ltT l)))) := by
  show sortD ((keysD tup l).map (·.1)) = _
  rw [keysD_fst]
  exact sortD_tups h
theorem b_lenL (xs : List D) : bLen [.lst xs] = some (.fz (.int (xs.length : Int))) := rfl
theorem b_lenT (xs : List D) : bLen [.tup xs] = some (.fz (.int (xs.length : Int))) := rfl
end Ev
end

section
set_option Elab.async false
set_option linter.all false
set_option maxRecDepth 100000
/-! Pl4: expressions that change nothing; comprehensions of such. Plain Lean. -/
namespace Ev
/-- an expression's value; no name is touched -/
def Is (p : Par) (e : E) (ρ : Env) (d : D) : Prop := ∃ r, ev p e ρ = .ok r ρ ∧ tk r ρ = some (d, ρ) ∧ rd r ρ = some d
section
variable {p : Par} {e ifs elt it key val : E} {ρ : Env} {d : D} {g : G} {vs : List Nat}
theorem Is.fz (h : ev p e ρ = .ok (.fz d) ρ) : Is p e ρ d := ⟨_, h, rfl, rfl⟩
theorem Is.fr (h : ev p e ρ = .ok (.fr d) ρ) : Is p e ρ d := ⟨_, h, rfl, rfl⟩
theorem Is.test {b : Bool} (h : Is p e ρ (.bl b)) : testOf (ev p e ρ) = some (b, ρ) := by
  obtain ⟨r, h1, _, h3⟩ := h
  rw [h1]
  show (tests r ρ).map _ = _
  unfold tests
  rw [h3]
  rfl
/-- one item of a comprehension: whether it is taken, what it becomes -/
structure Ea (p : Par) (g : G) (ifs elt : E) (vs : List Nat) (ρh : Env) (x : D) (b : Bool) (d : D) : Prop where
  ex : ∃ ρ1, asgG g x false ρh = some ρ1 ∧ hide vs ρ1 = ρh ∧ Is p ifs ρ1 (.bl b) ∧ (b = true → Is p elt ρ1 d)
theorem Ea.turn {ρh : Env} {x : D} {b : Bool} (h : Ea p g ifs elt vs ρh x b d) : Turn g (fun ρ => testOf (ev p ifs ρ)) (fun ρ => ev p elt ρ) vs ρh x (if b then some d else none) := by
  obtain ⟨ρ1, e1, e2, e3, e4⟩ := h.ex
  refine ⟨ρ1, ρ1, b, e1, e3.test, ?_⟩
  cases b with
  | false => exact ⟨rfl, e2⟩
  | true =>
    obtain ⟨r, q1, q2, q3⟩ := e4 rfl
    exact ⟨rfl, r, ρ1, ρ1, q1, q2, e2⟩
theorem filterMap_if {α β : Type} (b : α → Bool) (f : α → β) (l : List α) : l.filterMap (fun x => if b x then some (f x) else none) = (l.filter b).map f := by
  induction l with
  | nil => rfl
  | cons x l ih =>
    rw [List.filterMap_cons, List.filter_cons]
    cases h : b x with
    | true => simp [ih]
    | false => simp [ih]
/-- [f x for x in l if b x] -/
theorem lc_is {α : Type} (T : α → D) (b : α → Bool) (f : α → D) {l : List α} (hi : ev p it ρ = .ok (.its (l.map T) none) ρ) (ht : ∀ x ∈ l, Ea p g ifs elt vs (hide vs ρ) (T x) (b x) (f x)) (hl : l.length ≤ LIM) :
    ev p (.lc g it ifs elt vs) ρ = .ok (.fr (.lst ((l.filter b).map f))) ρ := by
  rw [lc_val T (fun x => if b x then some (f x) else none) hi (fun x hx => (ht x hx).turn) hl, filterMap_if]
/-- [f x y for x in l if c x for y in m x if b x y] -/
structure Ea2 (p : Par) (g : G) (ifs : E) (g1 : G) (it1 ifs1 elt : E) (vs vs1 : List Nat) (ρh : Env) {β : Type} (T1 : β → D) (x : D) (c : Bool) (m : List β) (b : β → Bool) (f : β → D) : Prop where
  ex : ∃ ρ1, asgG g x false ρh = some ρ1 ∧ hide vs ρ1 = ρh ∧ Is p ifs ρ1 (.bl c) ∧ (c = true → ev p it1 ρ1 = .ok (.its (m.map T1) none) ρ1 ∧ m.length ≤ 1000 ∧ hide vs (hide vs1 ρ1) = ρh ∧ ∀ y ∈ m, Ea p g1 ifs1 elt vs1 (hide vs1 ρ1) (T1 y) (b y) (f y))
theorem lc2_is {α β : Type} (T : α → D) (T1 : β → D) (c : α → Bool) (m : α → List β) (b : α → β → Bool) (f : α → β → D) {g1 : G} {it1 ifs1 : E} {vs1 : List Nat} {l : List α} (hi : ev p it ρ = .ok (.its (l.map T) none) ρ) (hv : ∀ i ∈ vs1, i ∈ vs)
    (ht : ∀ x ∈ l, Ea2 p g ifs g1 it1 ifs1 elt vs vs1 (hide vs ρ) T1 (T x) (c x) (m x) (b x) (f x)) (hl : l.length ≤ 1000) :
    ev p (.lc2 g it ifs g1 it1 ifs1 elt vs vs1) ρ = .ok (.fr (.lst (l.flatMap fun x => if c x then ((m x).filter (b x)).map (f x) else []))) ρ := by
  refine lc2_val T _ hi hv (fun x hx => ?_) hl
  obtain ⟨ρ1, e1, e2, e3, e4⟩ := (ht x hx).ex
  refine ⟨ρ1, ρ1, c x, e1, e3.test, ?_⟩
  cases hc : c x with
  | false => exact .inl ⟨rfl, by simp, e2⟩
  | true =>
    obtain ⟨q1, q2, q3, q4⟩ := e4 hc
    exact .inr ⟨rfl, β, T1, m x, ρ1, fun y => if b x y then some (f x y) else none, q1, q2, by rw [filterMap_if]; simp, q3, fun y hy => (q4 y hy).turn⟩
/-- {κ x: ν x for x in l} -/
structure EaD (p : Par) (t : Bool) (g : G) (ifs key val : E) (vs : List Nat) (ρh : Env) (x k v : D) : Prop where
  ex : ∃ ρ1, asgG g x false ρh = some ρ1 ∧ hide vs ρ1 = ρh ∧ Is p ifs ρ1 (.bl true) ∧ Is p key ρ1 k ∧ Is p val ρ1 v ∧ keyFits t k = true
theorem dc_is {α : Type} {t : Bool} (T κ ν : α → D) {l : List α} (hi : ev p it ρ = .ok (.its (l.map T) none) ρ) (ht : ∀ x ∈ l, EaD p t g ifs key val vs (hide vs ρ) (T x) (κ x) (ν x)) (hl : l.length ≤ 10000) :
    ev p (.dc t g it ifs key val vs) ρ = .ok (.fr (.dct t (l.foldl (fun acc x => dput (κ x) (ν x) acc) []))) ρ := by
  refine dc_val T κ ν hi (fun x hx => ?_) hl
  obtain ⟨ρ1, e1, e2, e3, ⟨r, q1, q2, _⟩, ⟨r', q3, q4, _⟩, e6⟩ := (ht x hx).ex
  exact ⟨ρ1, ρ1, r, ρ1, ρ1, r', ρ1, ρ1, e1, e3.test, q1, q2, q3, q4, e6, e2⟩
/-- a set of numbers as a dict -/
theorem dcN_is {l : List Nat} (hi : ev p it ρ = .ok (.its (nats l) none) ρ) (ht : ∀ x ∈ l, EaD p false g ifs key val vs (hide vs ρ) (.int (x : Int)) (.int (x : Int)) (.bl true)) (hl : l.length ≤ 10000) :
    ev p (.dc false g it ifs key val vs) ρ = .ok (.fr (dictN (l.foldl addK []))) ρ := by
  rw [dc_is (fun k : Nat => D.int (k : Int)) (fun k : Nat => D.int (k : Int)) (fun _ => .bl true) hi ht hl]
  have := fold_keysN l []
  unfold dictN
  rw [← this]
  rfl
end
/-! ### statements, one behind the other -/
section
variable {p : Par} {w : Nat} {ρ ρ1 ρ2 : Env} {s t : S} {it : E} {g : G}
theorem seq_nx (h : evS p w s ρ = .nx ρ1) : evS p w (.seq s t) ρ = evS p w t ρ1 := by rw [w_seq, h]
theorem seq_rt {r : Rs} (h : evS p w s ρ = .rt r ρ1) : evS p w (.seq s t) ρ = .rt r ρ1 := by rw [w_seq, h]
theorem loop_nx {l : List D} (hi : ev p it ρ = .ok (.its l none) ρ1) (h : forGo g (fun ρ => evS p w s ρ) l ρ1 = .nx ρ2) : evS p w (.loop g it s) ρ = .nx ρ2 := by
  rw [w_loop, hi]
  show (forGo g (fun ρ => evS p w s ρ) l ρ1).unlock none ρ1 = _
  rw [h]
  rfl
theorem loop_rt {l : List D} {d : D} (hi : ev p it ρ = .ok (.its l none) ρ1) (h : forGo g (fun ρ => evS p w s ρ) l ρ1 = .rt (.fz d) ρ2) : evS p w (.loop g it s) ρ = .rt (.fz d) ρ2 := by
  rw [w_loop, hi]
  show (forGo g (fun ρ => evS p w s ρ) l ρ1).unlock none ρ1 = _
  rw [h]
  rfl
end
theorem call_fz {P : Prog} {n f : Nat} {fd : Fn} {as : List Slot} {d : D} {ρ' : Env} {outs : List D} (h : P.fns[f]? = some fd) (hl : as.length = fd.args)
    (hb : evS ⟨callN P n, P.glob, P.rep⟩ P.fuel fd.body (as.map some ++ List.replicate (fd.many - as.length) none) = .rt (.fz d) ρ') (ho : outsOf as ρ' = some outs) : callN P (n + 1) f as = .ok false d outs := by
  rw [call_def h hl, hb]
  simp only [finish, ho]
theorem call_fr {P : Prog} {n f : Nat} {fd : Fn} {as : List Slot} {d : D} {ρ' : Env} {outs : List D} (h : P.fns[f]? = some fd) (hl : as.length = fd.args)
    (hb : evS ⟨callN P n, P.glob, P.rep⟩ P.fuel fd.body (as.map some ++ List.replicate (fd.many - as.length) none) = .rt (.fr d) ρ') (ho : outsOf as ρ' = some outs) : callN P (n + 1) f as = .ok fd.fr d outs := by
  rw [call_def h hl, hb]
  simp only [finish, ho]
theorem call_nx {P : Prog} {n f : Nat} {fd : Fn} {as : List Slot} {ρ' : Env} {outs : List D} (h : P.fns[f]? = some fd) (hl : as.length = fd.args)
    (hb : evS ⟨callN P n, P.glob, P.rep⟩ P.fuel fd.body (as.map some ++ List.replicate (fd.many - as.length) none) = .nx ρ') (ho : outsOf as ρ' = some outs) : callN P (n + 1) f as = .ok false .non outs := by
  rw [call_def h hl, hb]
  simp only [finish, ho]
theorem ix_nat {n i : Nat} (h : i < n) : ixD n (i : Int) = some i := by
  unfold ixD
  rw [if_neg (by omega)]
  simp [h]
theorem nats_at {l : List Nat} {i : Nat} (h : i < l.length) : (nats l)[i]? = some (.int ((l[i] : Nat) : Int)) := by
  rw [nats_get, List.getElem?_eq_getElem h]
  rfl
theorem up_at {l : List Nat} (h : Up l) {i : Nat} {a b : Nat} (ha : l[i]? = some a) (hb : l[i + 1]? = some b) : a < b := by
  obtain ⟨p1, q1⟩ := (List.getElem?_eq_some_iff.mp ha)
  obtain ⟨p2, q2⟩ := (List.getElem?_eq_some_iff.mp hb)
  rw [← q1, ← q2]
  exact List.pairwise_iff_getElem.mp h i (i + 1) p1 p2 (by omega)
theorem numbered_at : ∀ (l : List D) (n i : Nat), (numbered n l)[i]? = (l[i]?).map fun d => .tup [.int ((n + i : Nat) : Int), d]
  | [], _, _ => by simp [numbered]
  | d :: l, n, 0 => by simp [numbered]
  | d :: l, n, i + 1 => by
    rw [show numbered n (d :: l) = .tup [.int (n : Int), d] :: numbered (n + 1) l from rfl]
    simp only [List.getElem?_cons_succ]
    rw [numbered_at l (n + 1) i, show n + 1 + i = n + (i + 1) by omega]
theorem numbered_len : ∀ (l : List D) (n : Nat), (numbered n l).length = l.length
  | [], _ => rfl
  | d :: l, n => by rw [show numbered n (d :: l) = .tup [.int (n : Int), d] :: numbered (n + 1) l from rfl, List.length_cons, List.length_cons, numbered_len l (n + 1)]
@[simp] theorem filter_yes {α : Type} (l : List α) : l.filter (fun _ => true) = l := List.filter_eq_self.mpr fun _ _ => rfl
/-! ### ranges -/
section
variable {p : Par} {e : E} {ρ ρ1 : Env} {r : Rs} {n : Nat}
theorem ls1 (h : ev p e ρ = .ok r ρ1) (h2 : (rd r ρ1).isSome = true) : ev p (.cons e .nil) ρ = .ok (.ls [r]) ρ1 := by
  rw [v_cons, h]
  cases r <;> first | (simp [R.ca, v_nil, R.cl]; done) | cases h2
theorem itR1 (h : ev p e ρ = .ok r ρ1) (h2 : rd r ρ1 = some (.int (n : Int))) (hn : n < 1000000) : ev p (.itR (.cons e .nil)) ρ = .ok (.its (nats (List.range n)) none) ρ1 := by
  have e : (rdAll [r] ρ1).bind rangeA = some (nats (List.range n)) := by simp only [rdAll, h2]; rw [Option.bind_some, rangeA1 hn]
  rw [v_itR, ls1 h (by rw [h2]; rfl)]
  simp only [R.cl, e]
theorem lrng1 (h : ev p e ρ = .ok r ρ1) (h2 : rd r ρ1 = some (.int (n : Int))) (hn : n < 1000000) : ev p (.lrng (.cons e .nil)) ρ = .ok (.fr (.lst (nats (List.range n)))) ρ1 := by
  have e : (rdAll [r] ρ1).bind rangeD = some (nats (List.range n)) := by simp only [rdAll, h2]; rw [Option.bind_some, rangeD1 hn]
  have l : (nats (List.range n)).length ≤ LIM := by rw [nats_length, List.length_range]; unfold LIM; omega
  rw [v_lrng, ls1 h (by rw [h2]; rfl)]
  simp only [R.cl, e, l, if_true]
theorem trng1 (h : ev p e ρ = .ok r ρ1) (h2 : rd r ρ1 = some (.int (n : Int))) (hn : n < 1000000) : ev p (.trng (.cons e .nil)) ρ = .ok (.fz (.tup (nats (List.range n)))) ρ1 := by
  have e : (rdAll [r] ρ1).bind rangeD = some (nats (List.range n)) := by simp only [rdAll, h2]; rw [Option.bind_some, rangeD1 hn]
  have l : (nats (List.range n)).length ≤ LIM := by rw [nats_length, List.length_range]; unfold LIM; omega
  rw [v_trng, ls1 h (by rw [h2]; rfl)]
  simp only [R.cl, e, l, if_true]
end
theorem ret_tupL {p : Par} {w : Nat} {e : E} {ρ ρ1 : Env} {xs : List D} (h : ev p e ρ = .ok (.fr (.lst xs)) ρ1) : evS p w (.ret (.bi .tuple (.cons e .nil))) ρ = .rt (.fz (.tup xs)) ρ1 := by
  have e1 : ev p (.bi .tuple (.cons e .nil)) ρ = .ok (.fz (.tup xs)) ρ1 := by
    rw [v_bi, ls1 h rfl]
    simp only [R.cl, rdAll, rd, biD, b_tupL, ofOpt]
  rw [w_ret, e1]
  rfl
theorem c_ne00 : cmpD .ne (.lst []) (.lst []) = some false := rfl
theorem c_neT0 : cmpD .ne (.tup []) (.tup []) = some false := rfl
/-! ### texts of repr, side by side -/
theorem ls2 {p : Par} {a b : E} {ρ ρ1 ρ2 : Env} {x y : Rs} (ha : ev p a ρ = .ok x ρ1) (hx : (rd x ρ1).isSome = true) (hb : ev p b ρ1 = .ok y ρ2) (hy : (rd y ρ2).isSome = true) : ev p (.cons a (.cons b .nil)) ρ = .ok (.ls [x, y]) ρ2 := by
  rw [v_cons, ha]
  have e := ls1 hb hy
  cases x <;> first | (simp only [R.ca, e, R.cl, List.cons_append, List.nil_append]; done) | cases hx
theorem rep_one {p : Par} {a b : E} {ρ : Env} {d : D} {z : PySem.Str} (ha : Is p a ρ d) (hb : Is p b ρ d) (hs : p.rep (.lst [d, d]) = some z) : ev p (.bi .repr (.cons (.lst (.cons a (.cons b .nil))) .nil)) ρ = .ok (.fz (.str z)) ρ := by
  obtain ⟨x, a1, a2, a3⟩ := ha
  obtain ⟨y, b1, b2, b3⟩ := hb
  have e1 : ev p (.lst (.cons a (.cons b .nil))) ρ = .ok (.fr (.lst [d, d])) ρ := by
    rw [v_lst, ls2 a1 (by rw [a3]; rfl) b1 (by rw [b3]; rfl)]
    have e : tkAll [x, y] ρ = some ([d, d], ρ) := by simp only [tkAll, a2, b2]
    simp only [R.cl, e, List.length_cons, List.length_nil]
    rw [if_pos (by unfold LIM; omega)]
  rw [v_bi, ls1 e1 rfl]
  simp only [R.cl, rdAll, rd, biD, bRepr, hs, ofOpt, Option.map_some]
theorem rep_same {p : Par} {a b c e : E} {ρ : Env} {d : D} (ha : Is p a ρ d) (hb : Is p b ρ d) (hc : Is p c ρ d) (he : Is p e ρ d) (hs : (p.rep (.lst [d, d])).isSome = true) :
    ev p (.cmp (.bi .repr (.cons (.lst (.cons a (.cons b .nil))) .nil)) (.link .ne (.bi .repr (.cons (.lst (.cons c (.cons e .nil))) .nil)) .nil)) ρ = .ok (.fz (.bl false)) ρ := by
  obtain ⟨z, hz⟩ := Option.isSome_iff_exists.mp hs
  rw [v_cmp, rep_one ha hb hz]
  simp only [R.c1, rep_one hc he hz, rd, cmpD, decide_true, Bool.not_true]
theorem ne_any {α : Type} (b : α → Bool) (l : List α) : cmpD .ne (.lst ((l.filter b).map fun _ => D.int 1)) (.lst []) = some (l.any b) := by
  rw [c_neL _ (plainAll_map 39 _ _ fun _ _ => rfl)]
  congr 1
  induction l with
  | nil => rfl
  | cons x l ih =>
    rw [List.filter_cons, List.any_cons]
    cases h : b x with
    | true => rfl
    | false => rw [Bool.false_or]; exact ih
theorem c_isB (a b : Bool) : cmpD .is (.bl a) (.bl b) = some (a == b) := rfl
/-- a name that holds nothing, or a thing that stands still -/
def FzO (o : Option Slot) : Prop := o = none ∨ ∃ d, o = some (.fz d)
theorem FzO.put {o : Option Slot} (h : FzO o) : ∀ d, o ≠ some (.ln d) := by
  rcases h with rfl | ⟨d, rfl⟩ <;> (intro d z; cases z)
theorem FzO.fz (d : D) : FzO (some (.fz d)) := .inr ⟨d, rfl⟩
theorem FzO.no : FzO none := .inl rfl
end Ev
end

section
set_option Elab.async false
set_option linter.all false
set_option maxRecDepth 100000
/-! Pl5: spreading, step by step, against rooms; comprehensions that draw. Plain Lean. -/
namespace Ev
/-! ### comprehensions that change something -/
theorem back_hide : ∀ (vs : List Nat) (ρ0 ρ : Env), back vs ρ0 (hide vs ρ) = back vs ρ0 ρ := fun vs ρ0 ρ => by
  have hlen : ∀ (vs : List Nat) (ρ : Env), (hide vs ρ).length = ρ.length := fun vs ρ => by
    induction vs with
    | nil => rfl
    | cons v r ih => show ((hide r ρ).set v none).length = _; rw [List.length_set]; exact ih
  have blen : ∀ (vs : List Nat) (ρ0 ρ : Env), (back vs ρ0 ρ).length = ρ.length := fun vs ρ0 ρ => by
    induction vs with
    | nil => rfl
    | cons v r ih => show ((back r ρ0 ρ).set v _).length = _; rw [List.length_set]; exact ih
  have hget : ∀ (vs : List Nat) (ρ : Env) (i : Nat), i ∉ vs → (hide vs ρ)[i]? = ρ[i]? := fun vs ρ i => by
    induction vs with
    | nil => intro _; rfl
    | cons v r ih =>
      intro h
      rw [List.mem_cons, not_or] at h
      show ((hide r ρ).set v none)[i]? = _
      rw [List.getElem?_set_ne (fun z => h.1 z.symm)]
      exact ih h.2
  have bget : ∀ (vs : List Nat) (ρ0 ρ : Env) (i : Nat), i < ρ.length → (back vs ρ0 ρ)[i]? = if i ∈ vs then some (slot ρ0 i) else ρ[i]? := fun vs ρ0 ρ i hi => by
    induction vs with
    | nil => simp [back]
    | cons v r ih =>
      show ((back r ρ0 ρ).set v (slot ρ0 v))[i]? = _
      by_cases e : v = i
      · subst e
        rw [List.getElem?_set_self (by rw [blen]; exact hi), if_pos List.mem_cons_self]
      · rw [List.getElem?_set_ne e, ih]
        by_cases m : i ∈ r
        · rw [if_pos m, if_pos (List.mem_cons_of_mem _ m)]
        · rw [if_neg m, if_neg (fun z => (List.mem_cons.mp z).elim (fun z => e z.symm) m)]
  refine List.ext_getElem? fun i => ?_
  by_cases hi : i < ρ.length
  · rw [bget _ _ _ i (by rw [hlen]; exact hi), bget _ _ _ i hi]
    by_cases m : i ∈ vs
    · rw [if_pos m, if_pos m]
    · rw [if_neg m, if_neg m, hget vs ρ i m]
  · rw [List.getElem?_eq_none (by rw [blen, hlen]; omega), List.getElem?_eq_none (by rw [blen]; omega)]
/-- some of the items are taken; J: what holds of the names, the comprehension's own hidden -/
theorem lcGo_some {α : Type} (T f : α → D) (J : Env → Prop) {g : G} {test : Env → Option (Bool × Env)} {elt : Env → R} {vs : List Nat} : ∀ {l : List α} {acc : List D} {ρ : Env}, J (hide vs ρ) →
    (∀ x ∈ l, ∀ ρh, J ρh → ∃ ρ1 b ρ2, asgG g (T x) false ρh = some ρ1 ∧ test ρ1 = some (b, ρ2) ∧ (b = false → J (hide vs ρ2)) ∧ (b = true → ∃ r ρ3 ρ4, elt ρ2 = .ok r ρ3 ∧ tk r ρ3 = some (f x, ρ4) ∧ J (hide vs ρ4))) →
    acc.length + l.length ≤ LIM → ∃ (sub : List α) (ρ' : Env), sub.Sublist l ∧ lcGo g test elt vs (l.map T) acc ρ = .ok (.fr (.lst (acc ++ sub.map f))) ρ' ∧ J (hide vs ρ')
  | [], acc, ρ, h, _, _ => ⟨[], ρ, .slnil, by rw [List.map_nil]; unfold lcGo; simp, h⟩
  | x :: l, acc, ρ, h, ht, hl => by
    obtain ⟨ρ1, b, ρ2, e1, e2, e3, e4⟩ := ht x List.mem_cons_self _ h
    rw [List.length_cons] at hl
    rw [List.map_cons]
    unfold lcGo
    rw [e1]
    simp only [e2]
    cases b with
    | false =>
      obtain ⟨sub, ρ', s, q1, q2⟩ := lcGo_some T f J (acc := acc) (l := l) (e3 rfl) (fun z hz => ht z (List.mem_cons_of_mem _ hz)) (by omega)
      exact ⟨sub, ρ', s.cons x, q1, q2⟩
    | true =>
      obtain ⟨r, ρ3, ρ4, q3, q4, q5⟩ := e4 rfl
      obtain ⟨sub, ρ', s, q1, q2⟩ := lcGo_some T f J (acc := acc ++ [f x]) (l := l) q5 (fun z hz => ht z (List.mem_cons_of_mem _ hz)) (by rw [List.length_append, List.length_singleton]; omega)
      refine ⟨x :: sub, ρ', s.cons₂ x, ?_, q2⟩
      simp only [q3, q4]
      rw [if_pos (by omega), q1, List.append_assoc]
      rfl
theorem lc_some {α : Type} (T f : α → D) (J : Env → Prop) {p : Par} {g : G} {it ifs elt : E} {vs : List Nat} {ρ ρ0 : Env} {l : List α} (hi : ev p it ρ0 = .ok (.its (l.map T) none) ρ) (h0 : J (hide vs ρ))
    (ht : ∀ x ∈ l, ∀ ρh, J ρh → ∃ ρ1 b ρ2, asgG g (T x) false ρh = some ρ1 ∧ testOf (ev p ifs ρ1) = some (b, ρ2) ∧ (b = false → J (hide vs ρ2)) ∧ (b = true → ∃ r ρ3 ρ4, ev p elt ρ2 = .ok r ρ3 ∧ tk r ρ3 = some (f x, ρ4) ∧ J (hide vs ρ4)))
    (hl : l.length ≤ LIM) : ∃ (sub : List α) (ρh : Env), sub.Sublist l ∧ J ρh ∧ ev p (.lc g it ifs elt vs) ρ0 = .ok (.fr (.lst (sub.map f))) (back vs ρ ρh) := by
  obtain ⟨sub, ρ', s, q1, q2⟩ := lcGo_some T f J (test := fun ρ => testOf (ev p ifs ρ)) (elt := fun ρ => ev p elt ρ) (acc := []) (l := l) (ρ := ρ) h0 ht (by simpa using hl)
  refine ⟨sub, hide vs ρ', s, q2, ?_⟩
  rw [v_lc, hi, back_hide]
  show (match lcGo g (fun ρ => testOf (ev p ifs ρ)) (fun ρ => ev p elt ρ) vs (l.map T) [] ρ with
    | .ok r ρ2 => R.ok r (back vs ρ ρ2)
    | _ => .no) = _
  rw [q1, List.nil_append]

/-! ### spreading -/
def nbOf (nb : List (List Nat)) (c : Nat) : List Nat := nb.getD c []
def stepH (nb : List (List Nat)) (lot here : List Nat) : List Nat := here ++ lot.filter fun c => !decide (c ∈ here) && (nbOf nb c).any fun e => decide (e ∈ here)
def spread (nb : List (List Nat)) (lot : List Nat) : Nat → List Nat → List Nat
  | 0, here => here
  | k + 1, here => spread nb lot k (stepH nb lot here)
theorem spread_succ (nb : List (List Nat)) (lot : List Nat) : ∀ (k : Nat) (here : List Nat), spread nb lot (k + 1) here = stepH nb lot (spread nb lot k here)
  | 0, _ => rfl
  | k + 1, here => by
    show spread nb lot (k + 1) (stepH nb lot here) = stepH nb lot (spread nb lot k (stepH nb lot here))
    rw [spread_succ nb lot k]
def hangB (nb : List (List Nat)) (lot : List Nat) : Bool := !lot.isEmpty && decide ((spread nb lot lot.length (lot.take 1)).length = lot.length)
def pairsIn (nb : List (List Nat)) (lot : List Nat) : Prs := lot.flatMap fun one => ((nb.getD one []).filter fun two => decide (one < two) && decide (two ∈ lot)).map fun two => (one, two)
/-- neighbours on both sides -/
def SymB (nb : List (List Nat)) : Bool := (List.range nb.length).all fun x => (nbOf nb x).all fun y => decide (y < nb.length) && (nbOf nb y).any (· == x)
theorem sym_of {nb : List (List Nat)} (h : SymB nb = true) {x y : Nat} (hx : x < nb.length) (hy : y ∈ nbOf nb x) : y < nb.length ∧ x ∈ nbOf nb y := by
  have q := List.all_eq_true.mp (List.all_eq_true.mp h x (List.mem_range.mpr hx)) y hy
  rw [Bool.and_eq_true, decide_eq_true_eq, List.any_eq_true] at q
  obtain ⟨q1, z, hz, e⟩ := q
  exact ⟨q1, by rw [← eq_of_beq e]; exact hz⟩
theorem adj_pairsIn {nb : List (List Nat)} {lot : List Nat} (hs : SymB nb = true) (hb : ∀ x ∈ lot, x < nb.length) {x y : Nat} : Adj (pairsIn nb lot) x y ↔ x ∈ lot ∧ y ∈ lot ∧ x ≠ y ∧ y ∈ nbOf nb x := by
  have one : ∀ x y, (x, y) ∈ pairsIn nb lot ↔ x ∈ lot ∧ y ∈ lot ∧ x < y ∧ y ∈ nbOf nb x := fun x y => by
    unfold pairsIn
    rw [List.mem_flatMap]
    constructor
    · rintro ⟨z, h1, h2⟩
      obtain ⟨w, h3, h4⟩ := List.mem_map.mp h2
      cases h4
      obtain ⟨h5, h6⟩ := List.mem_filter.mp h3
      simp only [Bool.and_eq_true, decide_eq_true_eq] at h6
      exact ⟨h1, h6.2, h6.1, h5⟩
    · rintro ⟨h1, h2, h3, h4⟩
      exact ⟨x, h1, List.mem_map.mpr ⟨y, List.mem_filter.mpr ⟨h4, by simp [h2, h3]⟩, rfl⟩⟩
  unfold Adj
  rw [one, one]
  constructor
  · rintro (⟨h1, h2, h3, h4⟩ | ⟨h1, h2, h3, h4⟩)
    · exact ⟨h1, h2, by omega, h4⟩
    · exact ⟨h2, h1, by omega, (sym_of hs (hb _ h1) h4).2⟩
  · rintro ⟨h1, h2, h3, h4⟩
    by_cases c : x < y
    · exact .inl ⟨h1, h2, c, h4⟩
    · exact .inr ⟨h2, h1, by omega, (sym_of hs (hb _ h1) h4).2⟩
section
variable {nb : List (List Nat)} {lot : List Nat}
theorem stepH_mem {here : List Nat} {x : Nat} : x ∈ stepH nb lot here ↔ x ∈ here ∨ (x ∈ lot ∧ x ∉ here ∧ ∃ e ∈ nbOf nb x, e ∈ here) := by
  unfold stepH
  rw [List.mem_append, List.mem_filter]
  simp
theorem stepH_nodup {here : List Nat} (hl : lot.Nodup) (h : here.Nodup) : (stepH nb lot here).Nodup := by
  unfold stepH
  rw [List.nodup_append]
  refine ⟨h, hl.filter _, fun a ha b hb e => ?_⟩
  subst e
  have := (List.mem_filter.mp hb).2
  simp at this
  exact this.1 ha
/-- what the spreading holds at last -/
theorem spread_all (hs : SymB nb = true) (hb : ∀ x ∈ lot, x < nb.length) (hl : lot.Nodup) {a : Nat} (ha : a ∈ lot) :
    (spread nb lot lot.length [a]).Nodup ∧ ∀ x, x ∈ spread nb lot lot.length [a] ↔ Reach (pairsIn nb lot) a x := by
  have inv : ∀ k, (spread nb lot k [a]).Nodup ∧ a ∈ spread nb lot k [a] ∧ (∀ x ∈ spread nb lot k [a], x ∈ lot ∧ Reach (pairsIn nb lot) a x) ∧ (k + 1 ≤ (spread nb lot k [a]).length ∨ Closed (pairsIn nb lot) (spread nb lot k [a])) := fun k => by
    induction k with
    | zero => exact ⟨by simp [spread], by simp [spread], fun x hx => by simp [spread] at hx; subst hx; exact ⟨ha, .refl⟩, .inl (by simp [spread])⟩
    | succ k ih =>
      obtain ⟨h1, h2, h3, h4⟩ := ih
      rw [spread_succ]
      have m3 : ∀ x ∈ stepH nb lot (spread nb lot k [a]), x ∈ lot ∧ Reach (pairsIn nb lot) a x := fun x hx => by
        rcases stepH_mem.mp hx with z | ⟨z1, z2, e, z3, z4⟩
        · exact h3 x z
        · refine ⟨z1, (h3 e z4).2.step ((adj_pairsIn hs hb).mpr ⟨(h3 e z4).1, z1, fun q => z2 (q ▸ z4), (sym_of hs (hb _ z1) z3).2⟩)⟩
      refine ⟨stepH_nodup hl h1, stepH_mem.mpr (.inl h2), m3, ?_⟩
      by_cases c : lot.filter (fun c => !decide (c ∈ spread nb lot k [a]) && (nbOf nb c).any fun e => decide (e ∈ spread nb lot k [a])) = []
      · have e : stepH nb lot (spread nb lot k [a]) = spread nb lot k [a] := by unfold stepH; rw [c, List.append_nil]
        rw [e]
        refine .inr fun b hb' y q => ?_
        obtain ⟨q1, q2, q3, q4⟩ := (adj_pairsIn hs hb).mp q
        by_cases c2 : y ∈ spread nb lot k [a]
        · exact c2
        · have : y ∈ lot.filter (fun c => !decide (c ∈ spread nb lot k [a]) && (nbOf nb c).any fun e => decide (e ∈ spread nb lot k [a])) := by
            rw [List.mem_filter]
            refine ⟨q2, ?_⟩
            simp only [Bool.and_eq_true, Bool.not_eq_true', decide_eq_false_iff_not, List.any_eq_true, decide_eq_true_eq]
            exact ⟨c2, b, (sym_of hs (hb _ q1) q4).2, hb'⟩
          rw [c] at this
          cases this
      · rcases h4 with h4 | h4
        · refine .inl ?_
          unfold stepH
          rw [List.length_append]
          have := List.length_pos_iff.mpr c
          omega
        · exfalso
          apply c
          rw [List.filter_eq_nil_iff]
          intro y hy q
          simp only [Bool.and_eq_true, Bool.not_eq_true', decide_eq_false_iff_not, List.any_eq_true, decide_eq_true_eq] at q
          obtain ⟨q1, e, q2, q3⟩ := q
          exact q1 (h4 e q3 y ((adj_pairsIn hs hb).mpr ⟨(h3 e q3).1, hy, fun z => q1 (z ▸ q3), (sym_of hs (hb _ hy) q2).2⟩))
  obtain ⟨h1, h2, h3, h4⟩ := inv lot.length
  refine ⟨h1, fun x => ⟨fun hx => (h3 x hx).2, fun r => ?_⟩⟩
  rcases h4 with h4 | h4
  · have := nodup_le h1 fun x hx => (h3 x hx).1
    omega
  · exact h4.reach h2 r
theorem reach_lot (hs : SymB nb = true) (hb : ∀ x ∈ lot, x < nb.length) {a x : Nat} (ha : a ∈ lot) (r : Reach (pairsIn nb lot) a x) : x ∈ lot := by
  cases r with
  | refl => exact ha
  | step _ q => exact ((adj_pairsIn hs hb).mp q).2.1
/-- cells hang together -/
theorem hangB_iff (hs : SymB nb = true) (hb : ∀ x ∈ lot, x < nb.length) (hl : lot.Nodup) : hangB nb lot = true ↔ ∃ a ∈ lot, ∀ x ∈ lot, Reach (pairsIn nb lot) a x := by
  cases lot with
  | nil => simp [hangB]
  | cons a r =>
    have ha : a ∈ a :: r := List.mem_cons_self
    obtain ⟨h1, h2⟩ := spread_all hs hb hl ha
    unfold hangB
    rw [show (a :: r).take 1 = [a] from rfl]
    rw [Bool.and_eq_true, decide_eq_true_eq]
    constructor
    · rintro ⟨_, h⟩
      refine ⟨a, ha, fun x hx => (h2 x).mp ?_⟩
      exact nodup_all h1 hl (fun y hy => reach_lot hs hb ha ((h2 y).mp hy)) (by omega) x hx
    · rintro ⟨b, hb', h⟩
      refine ⟨rfl, ?_⟩
      have l1 := nodup_le h1 fun y hy => reach_lot hs hb ha ((h2 y).mp hy)
      have l2 := nodup_le hl fun y hy => (h2 y).mpr ((h a ha).symm.trans (h y hy))
      omega
end
noncomputable def roomsIn (N : Nat) (nb : List (List Nat)) (lot : List Nat) : List (List Nat) := (lot.map (roomOf N (pairsIn nb lot))).foldl addK []
theorem room_same {N : Nat} {E : Prs} {a b : Nat} (h : Reach E a b) : roomOf N E a = roomOf N E b :=
  up_ext (roomOf_up N E a) (roomOf_up N E b) fun x => by
    rw [roomOf_mem, roomOf_mem]
    exact ⟨fun ⟨q, r⟩ => ⟨q, h.symm.trans r⟩, fun ⟨q, r⟩ => ⟨q, h.trans r⟩⟩
/-- one room is one piece -/
theorem rooms_one {N : Nat} {nb : List (List Nat)} {lot : List Nat} (hN : ∀ x ∈ lot, x < N) : (roomsIn N nb lot).length = 1 ↔ ∃ a ∈ lot, ∀ x ∈ lot, Reach (pairsIn nb lot) a x := by
  have nd : (roomsIn N nb lot).Nodup := addAll_nodup List.nodup_nil
  have mem : ∀ r, r ∈ roomsIn N nb lot ↔ ∃ x ∈ lot, roomOf N (pairsIn nb lot) x = r := fun r => by
    unfold roomsIn
    rw [addAll_mem, List.mem_map]
    simp
  constructor
  · intro h
    obtain ⟨r, e⟩ := List.length_eq_one_iff.mp h
    obtain ⟨a, ha, ea⟩ := (mem r).mp (by rw [e]; exact List.mem_singleton_self r)
    refine ⟨a, ha, fun x hx => ?_⟩
    have q : roomOf N (pairsIn nb lot) x ∈ roomsIn N nb lot := (mem _).mpr ⟨x, hx, rfl⟩
    rw [e, List.mem_singleton] at q
    have m : x ∈ roomOf N (pairsIn nb lot) x := roomOf_mem.mpr ⟨hN x hx, .refl⟩
    rw [q, ← ea] at m
    exact (roomOf_mem.mp m).2
  · rintro ⟨a, ha, h⟩
    have all : ∀ r ∈ roomsIn N nb lot, r ∈ [roomOf N (pairsIn nb lot) a] := fun r hr => by
      obtain ⟨x, hx, rfl⟩ := (mem r).mp hr
      rw [List.mem_singleton]
      exact (room_same (h x hx)).symm
    have l1 := nodup_le nd all
    have l2 : 0 < (roomsIn N nb lot).length := List.length_pos_of_mem ((mem _).mpr ⟨a, ha, rfl⟩)
    rw [List.length_singleton] at l1
    omega
theorem rooms_hang {N : Nat} {nb : List (List Nat)} {lot : List Nat} (hs : SymB nb = true) (hb : ∀ x ∈ lot, x < nb.length) (hl : lot.Nodup) (hN : ∀ x ∈ lot, x < N) : decide ((roomsIn N nb lot).length = 1) = hangB nb lot := by
  rw [Bool.eq_iff_iff, decide_eq_true_eq, rooms_one hN, hangB_iff hs hb hl]
end Ev
end

section
set_option Elab.async false
set_option linter.all false
set_option maxRecDepth 1000000
set_option maxHeartbeats 0
/-! ### the text, as a letter -/
namespace K75
open Ev
class Has (P : Prog) : Prop where
  fns : P.fns = fns
  glob : P.glob = globs
  rep : P.rep = repD
  fuel : P.fuel = 100000
instance : Has prog := ⟨rfl, rfl, rfl, rfl⟩
end K75

/-! ### rooms: grown, room_around -/
namespace K75
open Ev
variable {P : Prog} [Has P]
def pr (q : Nat × Nat) : D := .tup [.int (q.1 : Int), .int (q.2 : Int)]
def prs (E : Prs) : D := .lst (E.map pr)
theorem fn_grown : P.fns[4]? = some f_grown := by rw [Has.fns]; rfl
theorem nearL_length (room : List Nat) (E : Prs) : (nearL room E).length ≤ 2 * E.length := by
  unfold nearL
  induction E with
  | nil => simp
  | cons q E ih =>
    rw [List.flatMap_cons, List.length_append, List.length_cons]
    have : (if q.1 ∈ room ∨ q.2 ∈ room then [q.1, q.2] else []).length ≤ 2 := by split <;> simp
    omega
theorem grown_ok (n : Nat) (room : List Nat) (E : Prs) (nd : room.Nodup) (hr : room.length ≤ 10000) (hE : E.length ≤ 1000) :
    callN P (n + 1) 4 [.fz (dictN room), .fz (prs E)] = .ok false (dictN (growK room E)) [] := by
  rw [call_def fn_grown rfl]
  have h1 : ev ⟨callN P n, P.glob, P.rep⟩ (.lc2 (.nm 3 false) (.itP (.var 1)) (.or (.cmp (.ix (.var 3) (.int 0)) (.link .isin (.var 0) .nil)) (.cmp (.ix (.var 3) (.int 1)) (.link .isin (.var 0) .nil))) (.nm 4 false) (.itP (.var 3)) (.bl true) (.var 4) [3, 4] [4]) [some (.fz (dictN room)), some (.fz (prs E)), none, none, none]
      = .ok (.fr (.lst (nats (nearL room E)))) [some (.fz (dictN room)), some (.fz (prs E)), none, none, none] := by
    rw [lc2_is (T := pr) (T1 := fun k : Nat => D.int (k : Int)) (c := fun q => decide (q.1 ∈ room ∨ q.2 ∈ room)) (m := fun q => [q.1, q.2]) (b := fun _ _ => true) (f := fun _ k => D.int (k : Int)) (l := E) (by simp [prs, v_nil, v_cons, v_star, v_bor, v_lend, v_var, v_give, v_int, v_bl, v_non, v_str, v_glob, v_bin, v_neg, v_not, v_cmp, v_cmp2, v_and, v_or, v_ite, v_tup, v_lst, v_ix, v_sl, v_call, v_callK, v_bi, v_divmod, v_mt, v_app, v_isi, v_itP, v_itE, v_rev, v_dnil, v_dkv, v_dun, v_dds, w_skip, w_seq, w_ex, w_asg, w_par, w_ite, w_ret, w_retN, Ev.R.c1, Ev.R.ca, Ev.R.cl, Ev.R.co, Ev.R.ci, Ev.R.cf, Ev.R.fl, slot, rd, Ev.Slot.d, tests, truD, tk, tkAll, rdAll, tkFr, tkS1, tkSl, parG, ofOpt, asgT, Ev.T.count, asgG, Ev.asgG.asgGs, putS, runCall, lendOk, mems, argsOf, argOf, outsTo, outsOf, finish, walkOf, itemsD, needLock, lock, Ev.F.unlock, unlock, hide, testOf, permD, binD, intD, addD, itemD, setD, biD, b_lenL, b_lenT, nats_length, bInt, bList, b_tupL, b_tupT, b_sortD, b_sortN, isiD, c_lt, c_le, c_gt, c_ge, c_eqI, c_neI, c_inL, c_inT, c_ninL, c_ninT, c_inD, len_dictN, List.map_cons, List.map_nil, List.length_cons, List.length_nil, List.replicate_succ, List.replicate_zero, List.cons_append, List.nil_append, List.append_nil, List.getElem?_cons_zero, List.getElem?_cons_succ, List.set_cons_zero, List.set_cons_succ, Option.map_some, Option.map_none, Option.bind_some, Option.any_some]) (by decide) (fun q hq => ⟨[some (.fz (dictN room)), some (.fz (prs E)), none, some (.fz (pr q)), none], rfl, rfl, ?_, fun hc => ⟨by simp [pr, v_nil, v_cons, v_star, v_bor, v_lend, v_var, v_give, v_int, v_bl, v_non, v_str, v_glob, v_bin, v_neg, v_not, v_cmp, v_cmp2, v_and, v_or, v_ite, v_tup, v_lst, v_ix, v_sl, v_call, v_callK, v_bi, v_divmod, v_mt, v_app, v_isi, v_itP, v_itE, v_rev, v_dnil, v_dkv, v_dun, v_dds, w_skip, w_seq, w_ex, w_asg, w_par, w_ite, w_ret, w_retN, Ev.R.c1, Ev.R.ca, Ev.R.cl, Ev.R.co, Ev.R.ci, Ev.R.cf, Ev.R.fl, slot, rd, Ev.Slot.d, tests, truD, tk, tkAll, rdAll, tkFr, tkS1, tkSl, parG, ofOpt, asgT, Ev.T.count, asgG, Ev.asgG.asgGs, putS, runCall, lendOk, mems, argsOf, argOf, outsTo, outsOf, finish, walkOf, itemsD, needLock, lock, Ev.F.unlock, unlock, hide, testOf, permD, binD, intD, addD, itemD, setD, biD, b_lenL, b_lenT, nats_length, bInt, bList, b_tupL, b_tupT, b_sortD, b_sortN, isiD, c_lt, c_le, c_gt, c_ge, c_eqI, c_neI, c_inL, c_inT, c_ninL, c_ninT, c_inD, len_dictN, List.map_cons, List.map_nil, List.length_cons, List.length_nil, List.replicate_succ, List.replicate_zero, List.cons_append, List.nil_append, List.append_nil, List.getElem?_cons_zero, List.getElem?_cons_succ, List.set_cons_zero, List.set_cons_succ, Option.map_some, Option.map_none, Option.bind_some, Option.any_some], by simp, rfl, fun y hy => ⟨[some (.fz (dictN room)), some (.fz (prs E)), none, some (.fz (pr q)), some (.fz (.int (y : Int)))], rfl, rfl, by simp [Is, v_nil, v_cons, v_star, v_bor, v_lend, v_var, v_give, v_int, v_bl, v_non, v_str, v_glob, v_bin, v_neg, v_not, v_cmp, v_cmp2, v_and, v_or, v_ite, v_tup, v_lst, v_ix, v_sl, v_call, v_callK, v_bi, v_divmod, v_mt, v_app, v_isi, v_itP, v_itE, v_rev, v_dnil, v_dkv, v_dun, v_dds, w_skip, w_seq, w_ex, w_asg, w_par, w_ite, w_ret, w_retN, Ev.R.c1, Ev.R.ca, Ev.R.cl, Ev.R.co, Ev.R.ci, Ev.R.cf, Ev.R.fl, slot, rd, Ev.Slot.d, tests, truD, tk, tkAll, rdAll, tkFr, tkS1, tkSl, parG, ofOpt, asgT, Ev.T.count, asgG, Ev.asgG.asgGs, putS, runCall, lendOk, mems, argsOf, argOf, outsTo, outsOf, finish, walkOf, itemsD, needLock, lock, Ev.F.unlock, unlock, hide, testOf, permD, binD, intD, addD, itemD, setD, biD, b_lenL, b_lenT, nats_length, bInt, bList, b_tupL, b_tupT, b_sortD, b_sortN, isiD, c_lt, c_le, c_gt, c_ge, c_eqI, c_neI, c_inL, c_inT, c_ninL, c_ninT, c_inD, len_dictN, List.map_cons, List.map_nil, List.length_cons, List.length_nil, List.replicate_succ, List.replicate_zero, List.cons_append, List.nil_append, List.append_nil, List.getElem?_cons_zero, List.getElem?_cons_succ, List.set_cons_zero, List.set_cons_succ, Option.map_some, Option.map_none, Option.bind_some, Option.any_some], fun _ => by simp [Is, v_nil, v_cons, v_star, v_bor, v_lend, v_var, v_give, v_int, v_bl, v_non, v_str, v_glob, v_bin, v_neg, v_not, v_cmp, v_cmp2, v_and, v_or, v_ite, v_tup, v_lst, v_ix, v_sl, v_call, v_callK, v_bi, v_divmod, v_mt, v_app, v_isi, v_itP, v_itE, v_rev, v_dnil, v_dkv, v_dun, v_dds, w_skip, w_seq, w_ex, w_asg, w_par, w_ite, w_ret, w_retN, Ev.R.c1, Ev.R.ca, Ev.R.cl, Ev.R.co, Ev.R.ci, Ev.R.cf, Ev.R.fl, slot, rd, Ev.Slot.d, tests, truD, tk, tkAll, rdAll, tkFr, tkS1, tkSl, parG, ofOpt, asgT, Ev.T.count, asgG, Ev.asgG.asgGs, putS, runCall, lendOk, mems, argsOf, argOf, outsTo, outsOf, finish, walkOf, itemsD, needLock, lock, Ev.F.unlock, unlock, hide, testOf, permD, binD, intD, addD, itemD, setD, biD, b_lenL, b_lenT, nats_length, bInt, bList, b_tupL, b_tupT, b_sortD, b_sortN, isiD, c_lt, c_le, c_gt, c_ge, c_eqI, c_neI, c_inL, c_inT, c_ninL, c_ninT, c_inD, len_dictN, List.map_cons, List.map_nil, List.length_cons, List.length_nil, List.replicate_succ, List.replicate_zero, List.cons_append, List.nil_append, List.append_nil, List.getElem?_cons_zero, List.getElem?_cons_succ, List.set_cons_zero, List.set_cons_succ, Option.map_some, Option.map_none, Option.bind_some, Option.any_some]⟩⟩⟩) hE]
    · congr 3
      unfold nearL nats
      rw [List.map_flatMap]
      congr 1
      funext q
      by_cases c : q.1 ∈ room ∨ q.2 ∈ room
      · simp [c]
      · simp [c]
    · by_cases c1 : q.1 ∈ room
      · simp [Is, pr, v_nil, v_cons, v_star, v_bor, v_lend, v_var, v_give, v_int, v_bl, v_non, v_str, v_glob, v_bin, v_neg, v_not, v_cmp, v_cmp2, v_and, v_or, v_ite, v_tup, v_lst, v_ix, v_sl, v_call, v_callK, v_bi, v_divmod, v_mt, v_app, v_isi, v_itP, v_itE, v_rev, v_dnil, v_dkv, v_dun, v_dds, w_skip, w_seq, w_ex, w_asg, w_par, w_ite, w_ret, w_retN, Ev.R.c1, Ev.R.ca, Ev.R.cl, Ev.R.co, Ev.R.ci, Ev.R.cf, Ev.R.fl, slot, rd, Ev.Slot.d, tests, truD, tk, tkAll, rdAll, tkFr, tkS1, tkSl, parG, ofOpt, asgT, Ev.T.count, asgG, Ev.asgG.asgGs, putS, runCall, lendOk, mems, argsOf, argOf, outsTo, outsOf, finish, walkOf, itemsD, needLock, lock, Ev.F.unlock, unlock, hide, testOf, permD, binD, intD, addD, itemD, setD, biD, b_lenL, b_lenT, nats_length, bInt, bList, b_tupL, b_tupT, b_sortD, b_sortN, isiD, c_lt, c_le, c_gt, c_ge, c_eqI, c_neI, c_inL, c_inT, c_ninL, c_ninT, c_inD, len_dictN, List.map_cons, List.map_nil, List.length_cons, List.length_nil, List.replicate_succ, List.replicate_zero, List.cons_append, List.nil_append, List.append_nil, List.getElem?_cons_zero, List.getElem?_cons_succ, List.set_cons_zero, List.set_cons_succ, Option.map_some, Option.map_none, Option.bind_some, Option.any_some, ixD, c1]
      · simp [Is, pr, v_nil, v_cons, v_star, v_bor, v_lend, v_var, v_give, v_int, v_bl, v_non, v_str, v_glob, v_bin, v_neg, v_not, v_cmp, v_cmp2, v_and, v_or, v_ite, v_tup, v_lst, v_ix, v_sl, v_call, v_callK, v_bi, v_divmod, v_mt, v_app, v_isi, v_itP, v_itE, v_rev, v_dnil, v_dkv, v_dun, v_dds, w_skip, w_seq, w_ex, w_asg, w_par, w_ite, w_ret, w_retN, Ev.R.c1, Ev.R.ca, Ev.R.cl, Ev.R.co, Ev.R.ci, Ev.R.cf, Ev.R.fl, slot, rd, Ev.Slot.d, tests, truD, tk, tkAll, rdAll, tkFr, tkS1, tkSl, parG, ofOpt, asgT, Ev.T.count, asgG, Ev.asgG.asgGs, putS, runCall, lendOk, mems, argsOf, argOf, outsTo, outsOf, finish, walkOf, itemsD, needLock, lock, Ev.F.unlock, unlock, hide, testOf, permD, binD, intD, addD, itemD, setD, biD, b_lenL, b_lenT, nats_length, bInt, bList, b_tupL, b_tupT, b_sortD, b_sortN, isiD, c_lt, c_le, c_gt, c_ge, c_eqI, c_neI, c_inL, c_inT, c_ninL, c_ninT, c_inD, len_dictN, List.map_cons, List.map_nil, List.length_cons, List.length_nil, List.replicate_succ, List.replicate_zero, List.cons_append, List.nil_append, List.append_nil, List.getElem?_cons_zero, List.getElem?_cons_succ, List.set_cons_zero, List.set_cons_succ, Option.map_some, Option.map_none, Option.bind_some, Option.any_some, ixD, c1]
  have hn := nearL_length room E
  have h2 : ev ⟨callN P n, P.glob, P.rep⟩ (.dc false (.nm 4 false) (.itP (.var 2)) (.bl true) (.var 4) (.bl true) [4]) [some (.fz (dictN room)), some (.fz (prs E)), some (.fz (.lst (nats (nearL room E)))), none, none]
      = .ok (.fr (dictN ((nearL room E).foldl addK []))) [some (.fz (dictN room)), some (.fz (prs E)), some (.fz (.lst (nats (nearL room E)))), none, none] :=
    dcN_is (by simp [v_nil, v_cons, v_star, v_bor, v_lend, v_var, v_give, v_int, v_bl, v_non, v_str, v_glob, v_bin, v_neg, v_not, v_cmp, v_cmp2, v_and, v_or, v_ite, v_tup, v_lst, v_ix, v_sl, v_call, v_callK, v_bi, v_divmod, v_mt, v_app, v_isi, v_itP, v_itE, v_rev, v_dnil, v_dkv, v_dun, v_dds, w_skip, w_seq, w_ex, w_asg, w_par, w_ite, w_ret, w_retN, Ev.R.c1, Ev.R.ca, Ev.R.cl, Ev.R.co, Ev.R.ci, Ev.R.cf, Ev.R.fl, slot, rd, Ev.Slot.d, tests, truD, tk, tkAll, rdAll, tkFr, tkS1, tkSl, parG, ofOpt, asgT, Ev.T.count, asgG, Ev.asgG.asgGs, putS, runCall, lendOk, mems, argsOf, argOf, outsTo, outsOf, finish, walkOf, itemsD, needLock, lock, Ev.F.unlock, unlock, hide, testOf, permD, binD, intD, addD, itemD, setD, biD, b_lenL, b_lenT, nats_length, bInt, bList, b_tupL, b_tupT, b_sortD, b_sortN, isiD, c_lt, c_le, c_gt, c_ge, c_eqI, c_neI, c_inL, c_inT, c_ninL, c_ninT, c_inD, len_dictN, List.map_cons, List.map_nil, List.length_cons, List.length_nil, List.replicate_succ, List.replicate_zero, List.cons_append, List.nil_append, List.append_nil, List.getElem?_cons_zero, List.getElem?_cons_succ, List.set_cons_zero, List.set_cons_succ, Option.map_some, Option.map_none, Option.bind_some, Option.any_some]) (fun x hx => ⟨[some (.fz (dictN room)), some (.fz (prs E)), some (.fz (.lst (nats (nearL room E)))), none, some (.fz (.int (x : Int)))], rfl, rfl, by simp [Is, v_nil, v_cons, v_star, v_bor, v_lend, v_var, v_give, v_int, v_bl, v_non, v_str, v_glob, v_bin, v_neg, v_not, v_cmp, v_cmp2, v_and, v_or, v_ite, v_tup, v_lst, v_ix, v_sl, v_call, v_callK, v_bi, v_divmod, v_mt, v_app, v_isi, v_itP, v_itE, v_rev, v_dnil, v_dkv, v_dun, v_dds, w_skip, w_seq, w_ex, w_asg, w_par, w_ite, w_ret, w_retN, Ev.R.c1, Ev.R.ca, Ev.R.cl, Ev.R.co, Ev.R.ci, Ev.R.cf, Ev.R.fl, slot, rd, Ev.Slot.d, tests, truD, tk, tkAll, rdAll, tkFr, tkS1, tkSl, parG, ofOpt, asgT, Ev.T.count, asgG, Ev.asgG.asgGs, putS, runCall, lendOk, mems, argsOf, argOf, outsTo, outsOf, finish, walkOf, itemsD, needLock, lock, Ev.F.unlock, unlock, hide, testOf, permD, binD, intD, addD, itemD, setD, biD, b_lenL, b_lenT, nats_length, bInt, bList, b_tupL, b_tupT, b_sortD, b_sortN, isiD, c_lt, c_le, c_gt, c_ge, c_eqI, c_neI, c_inL, c_inT, c_ninL, c_ninT, c_inD, len_dictN, List.map_cons, List.map_nil, List.length_cons, List.length_nil, List.replicate_succ, List.replicate_zero, List.cons_append, List.nil_append, List.append_nil, List.getElem?_cons_zero, List.getElem?_cons_succ, List.set_cons_zero, List.set_cons_succ, Option.map_some, Option.map_none, Option.bind_some, Option.any_some], by simp [Is, v_nil, v_cons, v_star, v_bor, v_lend, v_var, v_give, v_int, v_bl, v_non, v_str, v_glob, v_bin, v_neg, v_not, v_cmp, v_cmp2, v_and, v_or, v_ite, v_tup, v_lst, v_ix, v_sl, v_call, v_callK, v_bi, v_divmod, v_mt, v_app, v_isi, v_itP, v_itE, v_rev, v_dnil, v_dkv, v_dun, v_dds, w_skip, w_seq, w_ex, w_asg, w_par, w_ite, w_ret, w_retN, Ev.R.c1, Ev.R.ca, Ev.R.cl, Ev.R.co, Ev.R.ci, Ev.R.cf, Ev.R.fl, slot, rd, Ev.Slot.d, tests, truD, tk, tkAll, rdAll, tkFr, tkS1, tkSl, parG, ofOpt, asgT, Ev.T.count, asgG, Ev.asgG.asgGs, putS, runCall, lendOk, mems, argsOf, argOf, outsTo, outsOf, finish, walkOf, itemsD, needLock, lock, Ev.F.unlock, unlock, hide, testOf, permD, binD, intD, addD, itemD, setD, biD, b_lenL, b_lenT, nats_length, bInt, bList, b_tupL, b_tupT, b_sortD, b_sortN, isiD, c_lt, c_le, c_gt, c_ge, c_eqI, c_neI, c_inL, c_inT, c_ninL, c_ninT, c_inD, len_dictN, List.map_cons, List.map_nil, List.length_cons, List.length_nil, List.replicate_succ, List.replicate_zero, List.cons_append, List.nil_append, List.append_nil, List.getElem?_cons_zero, List.getElem?_cons_succ, List.set_cons_zero, List.set_cons_succ, Option.map_some, Option.map_none, Option.bind_some, Option.any_some], by simp [Is, v_nil, v_cons, v_star, v_bor, v_lend, v_var, v_give, v_int, v_bl, v_non, v_str, v_glob, v_bin, v_neg, v_not, v_cmp, v_cmp2, v_and, v_or, v_ite, v_tup, v_lst, v_ix, v_sl, v_call, v_callK, v_bi, v_divmod, v_mt, v_app, v_isi, v_itP, v_itE, v_rev, v_dnil, v_dkv, v_dun, v_dds, w_skip, w_seq, w_ex, w_asg, w_par, w_ite, w_ret, w_retN, Ev.R.c1, Ev.R.ca, Ev.R.cl, Ev.R.co, Ev.R.ci, Ev.R.cf, Ev.R.fl, slot, rd, Ev.Slot.d, tests, truD, tk, tkAll, rdAll, tkFr, tkS1, tkSl, parG, ofOpt, asgT, Ev.T.count, asgG, Ev.asgG.asgGs, putS, runCall, lendOk, mems, argsOf, argOf, outsTo, outsOf, finish, walkOf, itemsD, needLock, lock, Ev.F.unlock, unlock, hide, testOf, permD, binD, intD, addD, itemD, setD, biD, b_lenL, b_lenT, nats_length, bInt, bList, b_tupL, b_tupT, b_sortD, b_sortN, isiD, c_lt, c_le, c_gt, c_ge, c_eqI, c_neI, c_inL, c_inT, c_ninL, c_ninT, c_inD, len_dictN, List.map_cons, List.map_nil, List.length_cons, List.length_nil, List.replicate_succ, List.replicate_zero, List.cons_append, List.nil_append, List.append_nil, List.getElem?_cons_zero, List.getElem?_cons_succ, List.set_cons_zero, List.set_cons_succ, Option.map_some, Option.map_none, Option.bind_some, Option.any_some], rfl⟩) (by omega)
  have hk : ((nearL room E).foldl addK []).length ≤ 2000 := by
    have : ((nearL room E).foldl addK []).length ≤ (nearL room E).length := nodup_le (addAll_nodup List.nodup_nil) fun x hx => by
      rw [addAll_mem] at hx
      exact hx.elim (fun z => nomatch z) id
    omega
  have hu := unite room ((nearL room E).foldl addK []) nd (by omega)
  unfold dictN at hu h1 h2 ⊢
  simp [f_grown, v_nil, v_cons, v_star, v_bor, v_lend, v_var, v_give, v_int, v_bl, v_non, v_str, v_glob, v_bin, v_neg, v_not, v_cmp, v_cmp2, v_and, v_or, v_ite, v_tup, v_lst, v_ix, v_sl, v_call, v_callK, v_bi, v_divmod, v_mt, v_app, v_isi, v_itP, v_itE, v_rev, v_dnil, v_dkv, v_dun, v_dds, w_skip, w_seq, w_ex, w_asg, w_par, w_ite, w_ret, w_retN, Ev.R.c1, Ev.R.ca, Ev.R.cl, Ev.R.co, Ev.R.ci, Ev.R.cf, Ev.R.fl, slot, rd, Ev.Slot.d, tests, truD, tk, tkAll, rdAll, tkFr, tkS1, tkSl, parG, ofOpt, asgT, Ev.T.count, asgG, Ev.asgG.asgGs, putS, runCall, lendOk, mems, argsOf, argOf, outsTo, outsOf, finish, walkOf, itemsD, needLock, lock, Ev.F.unlock, unlock, hide, testOf, permD, binD, intD, addD, itemD, setD, biD, b_lenL, b_lenT, nats_length, bInt, bList, b_tupL, b_tupT, b_sortD, b_sortN, isiD, c_lt, c_le, c_gt, c_ge, c_eqI, c_neI, c_inL, c_inT, c_ninL, c_ninT, c_inD, len_dictN, List.map_cons, List.map_nil, List.length_cons, List.length_nil, List.replicate_succ, List.replicate_zero, List.cons_append, List.nil_append, List.append_nil, List.getElem?_cons_zero, List.getElem?_cons_succ, List.set_cons_zero, List.set_cons_succ, Option.map_some, Option.map_none, Option.bind_some, Option.any_some, h1, h2, hu]
  rfl
theorem fn_room_around : P.fns[5]? = some f_room_around := by rw [Has.fns]; rfl
theorem fuel_ok : P.fuel = 100000 := Has.fuel
theorem room_ok (n N : Nat) (E : Prs) (a : Nat) (hu : Under N E) (ha : a < N) (hE : E.length ≤ 1000) :
    callN P (n + 2) 5 [.fz (.int (a : Int)), .fz (prs E)] = .ok false (tup (roomOf N E a)) [] := by
  rw [call_def fn_room_around rfl]
  have wh := whGo_inv (test := fun ρ => ev ⟨callN P (n + 1), P.glob, P.rep⟩ (.cmp (.bi .len (.cons (.var 3) .nil)) (.link .gt (.bi .len (.cons (.var 2) .nil)) .nil)) ρ)
    (body := fun ρ => evS ⟨callN P (n + 1), P.glob, P.rep⟩ P.fuel (.par (.cons (.nm 2 false) (.cons (.nm 3 false) .nil)) (.cons (.var 3) (.cons (.call 4 (.cons (.var 3) (.cons (.var 1) .nil))) .nil))) ρ)
    (I := fun ρ => ∃ F M : List Nat, ρ = [some (.fz (.int (a : Int))), some (.fz (prs E)), some (.fz (dictN F)), some (.fz (dictN M))] ∧ M.Nodup ∧ a ∈ M ∧ (∀ b ∈ M, Reach E a b) ∧ F.Nodup ∧ (∀ b ∈ F, Reach E a b) ∧ ((F = [] ∧ M = [a]) ∨ (a ∈ F ∧ M = growK F E)))
    (Q := fun ρ => ∃ F M : List Nat, ρ = [some (.fz (.int (a : Int))), some (.fz (prs E)), some (.fz (dictN F)), some (.fz (dictN M))] ∧ F.Nodup ∧ a ∈ F ∧ (∀ b ∈ F, Reach E a b) ∧ Closed E F)
    (μ := fun ρ => match slot ρ 2 with | some (.fz (.dct _ es)) => 3000 - es.length | _ => 0) (fun ρ ⟨F, M, e, h1, h2, h3, h4, h5, h6⟩ => ?_) P.fuel [some (.fz (.int (a : Int))), some (.fz (prs E)), some (.fz (dictN [])), some (.fz (dictN [a]))]
    ⟨[], [a], rfl, by simp, by simp, fun b hb => by rw [List.mem_singleton.mp hb]; exact .refl, by simp, by simp, .inl ⟨rfl, rfl⟩⟩ (by rw [fuel_ok]; simp [slot, dictN, keysD])
  · obtain ⟨ρ', w1, F, M, rfl, k1, k2, k3, k4⟩ := wh
    have hd : dmake false [.tup [.int (a : Int), .bl true]] [] = some (keysD (fun k : Nat => D.int (k : Int)) [a]) := rfl
    have hz : dmake false [] [] = some (keysD (fun k : Nat => D.int (k : Int)) []) := rfl
    have h1 : evS ⟨callN P (n + 1), P.glob, P.rep⟩ P.fuel (.par (.cons (.nm 2 false) (.cons (.nm 3 false) .nil)) (.cons (.dds false .dnil) (.cons (.dds false (.dkv (.var 0) (.bl true) .dnil)) .nil))) [some (.fz (.int (a : Int))), some (.fz (prs E)), none, none]
        = .nx [some (.fz (.int (a : Int))), some (.fz (prs E)), some (.fz (dictN [])), some (.fz (dictN [a]))] := by
      simp [v_nil, v_cons, v_star, v_bor, v_lend, v_var, v_give, v_int, v_bl, v_non, v_str, v_glob, v_bin, v_neg, v_not, v_cmp, v_cmp2, v_and, v_or, v_ite, v_tup, v_lst, v_ix, v_sl, v_call, v_callK, v_bi, v_divmod, v_mt, v_app, v_isi, v_itP, v_itE, v_rev, v_dnil, v_dkv, v_dun, v_dds, w_skip, w_seq, w_ex, w_asg, w_par, w_ite, w_ret, w_retN, Ev.R.c1, Ev.R.ca, Ev.R.cl, Ev.R.co, Ev.R.ci, Ev.R.cf, Ev.R.fl, slot, rd, Ev.Slot.d, tests, truD, tk, tkAll, rdAll, tkFr, tkS1, tkSl, parG, ofOpt, asgT, Ev.T.count, asgG, Ev.asgG.asgGs, putS, runCall, lendOk, mems, argsOf, argOf, outsTo, outsOf, finish, walkOf, itemsD, needLock, lock, Ev.F.unlock, unlock, hide, testOf, permD, binD, intD, addD, itemD, setD, biD, b_lenL, b_lenT, nats_length, bInt, bList, b_tupL, b_tupT, b_sortD, b_sortN, isiD, c_lt, c_le, c_gt, c_ge, c_eqI, c_neI, c_inL, c_inT, c_ninL, c_ninT, c_inD, len_dictN, List.map_cons, List.map_nil, List.length_cons, List.length_nil, List.replicate_succ, List.replicate_zero, List.cons_append, List.nil_append, List.append_nil, List.getElem?_cons_zero, List.getElem?_cons_succ, List.set_cons_zero, List.set_cons_succ, Option.map_some, Option.map_none, Option.bind_some, Option.any_some, hd, hz]
      exact ⟨rfl, rfl⟩
    have hb : evS ⟨callN P (n + 1), P.glob, P.rep⟩ P.fuel f_room_around.body [some (.fz (.int (a : Int))), some (.fz (prs E)), none, none] = .rt (.fz (tup (roomOf N E a))) [some (.fz (.int (a : Int))), some (.fz (prs E)), some (.fz (dictN F)), some (.fz (dictN M))] := by
      unfold f_room_around
      rw [w_seq, h1]
      dsimp only
      rw [w_seq, w_wh, w1]
      dsimp only
      rw [← room_eq hu ha k1 k2 k4 k3]
      simp [v_nil, v_cons, v_star, v_bor, v_lend, v_var, v_give, v_int, v_bl, v_non, v_str, v_glob, v_bin, v_neg, v_not, v_cmp, v_cmp2, v_and, v_or, v_ite, v_tup, v_lst, v_ix, v_sl, v_call, v_callK, v_bi, v_divmod, v_mt, v_app, v_isi, v_itP, v_itE, v_rev, v_dnil, v_dkv, v_dun, v_dds, w_skip, w_seq, w_ex, w_asg, w_par, w_ite, w_ret, w_retN, Ev.R.c1, Ev.R.ca, Ev.R.cl, Ev.R.co, Ev.R.ci, Ev.R.cf, Ev.R.fl, slot, rd, Ev.Slot.d, tests, truD, tk, tkAll, rdAll, tkFr, tkS1, tkSl, parG, ofOpt, asgT, Ev.T.count, asgG, Ev.asgG.asgGs, putS, runCall, lendOk, mems, argsOf, argOf, outsTo, outsOf, finish, walkOf, itemsD, needLock, lock, Ev.F.unlock, unlock, hide, testOf, permD, binD, intD, addD, itemD, setD, biD, b_lenL, b_lenT, nats_length, bInt, bList, b_tupL, b_tupT, b_sortD, b_sortN, isiD, c_lt, c_le, c_gt, c_ge, c_eqI, c_neI, c_inL, c_inT, c_ninL, c_ninT, c_inD, len_dictN, List.map_cons, List.map_nil, List.length_cons, List.length_nil, List.replicate_succ, List.replicate_zero, List.cons_append, List.nil_append, List.append_nil, List.getElem?_cons_zero, List.getElem?_cons_succ, List.set_cons_zero, List.set_cons_succ, Option.map_some, Option.map_none, Option.bind_some, Option.any_some]
      rfl
    show finish f_room_around _ (evS ⟨callN P (n + 1), P.glob, P.rep⟩ P.fuel f_room_around.body [some (.fz (.int (a : Int))), some (.fz (prs E)), none, none]) = _
    rw [hb]
    simp [finish, outsOf]
  · subst e
    have hl := reach_length h1 h3
    refine ⟨.fz (.bl (decide (F.length < M.length))), _, by simp [v_nil, v_cons, v_star, v_bor, v_lend, v_var, v_give, v_int, v_bl, v_non, v_str, v_glob, v_bin, v_neg, v_not, v_cmp, v_cmp2, v_and, v_or, v_ite, v_tup, v_lst, v_ix, v_sl, v_call, v_callK, v_bi, v_divmod, v_mt, v_app, v_isi, v_itP, v_itE, v_rev, v_dnil, v_dkv, v_dun, v_dds, w_skip, w_seq, w_ex, w_asg, w_par, w_ite, w_ret, w_retN, Ev.R.c1, Ev.R.ca, Ev.R.cl, Ev.R.co, Ev.R.ci, Ev.R.cf, Ev.R.fl, slot, rd, Ev.Slot.d, tests, truD, tk, tkAll, rdAll, tkFr, tkS1, tkSl, parG, ofOpt, asgT, Ev.T.count, asgG, Ev.asgG.asgGs, putS, runCall, lendOk, mems, argsOf, argOf, outsTo, outsOf, finish, walkOf, itemsD, needLock, lock, Ev.F.unlock, unlock, hide, testOf, permD, binD, intD, addD, itemD, setD, biD, b_lenL, b_lenT, nats_length, bInt, bList, b_tupL, b_tupT, b_sortD, b_sortN, isiD, c_lt, c_le, c_gt, c_ge, c_eqI, c_neI, c_inL, c_inT, c_ninL, c_ninT, c_inD, len_dictN, List.map_cons, List.map_nil, List.length_cons, List.length_nil, List.replicate_succ, List.replicate_zero, List.cons_append, List.nil_append, List.append_nil, List.getElem?_cons_zero, List.getElem?_cons_succ, List.set_cons_zero, List.set_cons_succ, Option.map_some, Option.map_none, Option.bind_some, Option.any_some]; rfl, ?_⟩
    by_cases c : F.length < M.length
    · refine .inr ⟨by simp [tests, rd, truD, c], [some (.fz (.int (a : Int))), some (.fz (prs E)), some (.fz (dictN M)), some (.fz (dictN (growK M E)))], ?_, ⟨M, growK M E, rfl, growK_nodup h1, growK_mem.mpr (.inl h2), growK_reach h3, h1, h3, .inr ⟨h2, rfl⟩⟩, ?_⟩
      · simp [v_nil, v_cons, v_star, v_bor, v_lend, v_var, v_give, v_int, v_bl, v_non, v_str, v_glob, v_bin, v_neg, v_not, v_cmp, v_cmp2, v_and, v_or, v_ite, v_tup, v_lst, v_ix, v_sl, v_call, v_callK, v_bi, v_divmod, v_mt, v_app, v_isi, v_itP, v_itE, v_rev, v_dnil, v_dkv, v_dun, v_dds, w_skip, w_seq, w_ex, w_asg, w_par, w_ite, w_ret, w_retN, Ev.R.c1, Ev.R.ca, Ev.R.cl, Ev.R.co, Ev.R.ci, Ev.R.cf, Ev.R.fl, slot, rd, Ev.Slot.d, tests, truD, tk, tkAll, rdAll, tkFr, tkS1, tkSl, parG, ofOpt, asgT, Ev.T.count, asgG, Ev.asgG.asgGs, putS, runCall, lendOk, mems, argsOf, argOf, outsTo, outsOf, finish, walkOf, itemsD, needLock, lock, Ev.F.unlock, unlock, hide, testOf, permD, binD, intD, addD, itemD, setD, biD, b_lenL, b_lenT, nats_length, bInt, bList, b_tupL, b_tupT, b_sortD, b_sortN, isiD, c_lt, c_le, c_gt, c_ge, c_eqI, c_neI, c_inL, c_inT, c_ninL, c_ninT, c_inD, len_dictN, List.map_cons, List.map_nil, List.length_cons, List.length_nil, List.replicate_succ, List.replicate_zero, List.cons_append, List.nil_append, List.append_nil, List.getElem?_cons_zero, List.getElem?_cons_succ, List.set_cons_zero, List.set_cons_succ, Option.map_some, Option.map_none, Option.bind_some, Option.any_some, grown_ok n M E h1 (by omega) hE]
      · have l : ∀ l : List Nat, (keysD (fun k : Nat => D.int (k : Int)) l).length = l.length := fun l => List.length_map ..
        simp only [slot, dictN, List.getElem?_cons_succ, List.getElem?_cons_zero, l]
        omega
    · refine .inl ⟨by simp [tests, rd, truD, c], F, M, rfl, h4, ?_, h5, ?_⟩
      · rcases h6 with ⟨rfl, rfl⟩ | ⟨h6, _⟩
        · simp at c
        · exact h6
      · rcases h6 with ⟨rfl, rfl⟩ | ⟨h6, h7⟩
        · simp at c
        · exact growK_closed h4 (by rw [← h7]; omega)
end K75
end

section
set_option Elab.async false
set_option linter.all false
set_option maxRecDepth 1000000
set_option maxHeartbeats 0
/-! ### numbers told, lots told -/
namespace K75
open Ev
variable {P : Prog} [Has P]
theorem fn_is_whole : P.fns[0]? = some f_is_whole := by rw [Has.fns]; rfl
theorem whole_ok (n : Nat) (i : Int) : callN P (n + 1) 0 [.fz (.int i)] = .ok false (.bl true) [] := by
  rw [call_def fn_is_whole rfl]
  simp [f_is_whole, v_nil, v_cons, v_star, v_bor, v_lend, v_var, v_give, v_int, v_bl, v_non, v_str, v_glob, v_bin, v_neg, v_not, v_cmp, v_cmp2, v_and, v_or, v_ite, v_tup, v_lst, v_ix, v_sl, v_call, v_callK, v_bi, v_divmod, v_mt, v_app, v_isi, v_itP, v_itE, v_rev, v_dnil, v_dkv, v_dun, v_dds, w_skip, w_seq, w_ex, w_asg, w_par, w_ite, w_ret, w_retN, Ev.R.c1, Ev.R.ca, Ev.R.cl, Ev.R.co, Ev.R.ci, Ev.R.cf, Ev.R.fl, slot, rd, Ev.Slot.d, tests, truD, tk, tkAll, rdAll, tkFr, tkS1, tkSl, parG, ofOpt, asgT, Ev.T.count, asgG, Ev.asgG.asgGs, putS, runCall, lendOk, mems, argsOf, argOf, outsTo, outsOf, finish, walkOf, itemsD, needLock, lock, Ev.F.unlock, unlock, hide, testOf, permD, binD, intD, addD, itemD, setD, biD, b_lenL, b_lenT, nats_length, bInt, bList, b_tupL, b_tupT, b_sortD, b_sortN, isiD, c_lt, c_le, c_gt, c_ge, c_eqI, c_neI, c_inL, c_inT, c_ninL, c_ninT, c_inD, len_dictN, List.map_cons, List.map_nil, List.length_cons, List.length_nil, List.replicate_succ, List.replicate_zero, List.cons_append, List.nil_append, List.append_nil, List.getElem?_cons_zero, List.getElem?_cons_succ, List.set_cons_zero, List.set_cons_succ, Option.map_some, Option.map_none, Option.bind_some, Option.any_some]
theorem fn_is_between : P.fns[1]? = some f_is_between := by rw [Has.fns]; rfl
theorem between_ok (n : Nat) (v lo hi : Int) : callN P (n + 2) 1 [.fz (.int v), .fz (.int lo), .fz (.int hi)] = .ok false (.bl (decide (lo ≤ v ∧ v ≤ hi))) [] := by
  rw [call_def fn_is_between rfl]
  by_cases h : lo ≤ v
  · simp [f_is_between, v_nil, v_cons, v_star, v_bor, v_lend, v_var, v_give, v_int, v_bl, v_non, v_str, v_glob, v_bin, v_neg, v_not, v_cmp, v_cmp2, v_and, v_or, v_ite, v_tup, v_lst, v_ix, v_sl, v_call, v_callK, v_bi, v_divmod, v_mt, v_app, v_isi, v_itP, v_itE, v_rev, v_dnil, v_dkv, v_dun, v_dds, w_skip, w_seq, w_ex, w_asg, w_par, w_ite, w_ret, w_retN, Ev.R.c1, Ev.R.ca, Ev.R.cl, Ev.R.co, Ev.R.ci, Ev.R.cf, Ev.R.fl, slot, rd, Ev.Slot.d, tests, truD, tk, tkAll, rdAll, tkFr, tkS1, tkSl, parG, ofOpt, asgT, Ev.T.count, asgG, Ev.asgG.asgGs, putS, runCall, lendOk, mems, argsOf, argOf, outsTo, outsOf, finish, walkOf, itemsD, needLock, lock, Ev.F.unlock, unlock, hide, testOf, permD, binD, intD, addD, itemD, setD, biD, b_lenL, b_lenT, nats_length, bInt, bList, b_tupL, b_tupT, b_sortD, b_sortN, isiD, c_lt, c_le, c_gt, c_ge, c_eqI, c_neI, c_inL, c_inT, c_ninL, c_ninT, c_inD, len_dictN, List.map_cons, List.map_nil, List.length_cons, List.length_nil, List.replicate_succ, List.replicate_zero, List.cons_append, List.nil_append, List.append_nil, List.getElem?_cons_zero, List.getElem?_cons_succ, List.set_cons_zero, List.set_cons_succ, Option.map_some, Option.map_none, Option.bind_some, Option.any_some, whole_ok, h]
  · simp [f_is_between, v_nil, v_cons, v_star, v_bor, v_lend, v_var, v_give, v_int, v_bl, v_non, v_str, v_glob, v_bin, v_neg, v_not, v_cmp, v_cmp2, v_and, v_or, v_ite, v_tup, v_lst, v_ix, v_sl, v_call, v_callK, v_bi, v_divmod, v_mt, v_app, v_isi, v_itP, v_itE, v_rev, v_dnil, v_dkv, v_dun, v_dds, w_skip, w_seq, w_ex, w_asg, w_par, w_ite, w_ret, w_retN, Ev.R.c1, Ev.R.ca, Ev.R.cl, Ev.R.co, Ev.R.ci, Ev.R.cf, Ev.R.fl, slot, rd, Ev.Slot.d, tests, truD, tk, tkAll, rdAll, tkFr, tkS1, tkSl, parG, ofOpt, asgT, Ev.T.count, asgG, Ev.asgG.asgGs, putS, runCall, lendOk, mems, argsOf, argOf, outsTo, outsOf, finish, walkOf, itemsD, needLock, lock, Ev.F.unlock, unlock, hide, testOf, permD, binD, intD, addD, itemD, setD, biD, b_lenL, b_lenT, nats_length, bInt, bList, b_tupL, b_tupT, b_sortD, b_sortN, isiD, c_lt, c_le, c_gt, c_ge, c_eqI, c_neI, c_inL, c_inT, c_ninL, c_ninT, c_inD, len_dictN, List.map_cons, List.map_nil, List.length_cons, List.length_nil, List.replicate_succ, List.replicate_zero, List.cons_append, List.nil_append, List.append_nil, List.getElem?_cons_zero, List.getElem?_cons_succ, List.set_cons_zero, List.set_cons_succ, Option.map_some, Option.map_none, Option.bind_some, Option.any_some, whole_ok, h]
theorem fn_wrong_in_lot : P.fns[2]? = some f_wrong_in_lot := by rw [Has.fns]; rfl
theorem wrong_ok (n many : Nat) (lot : List Nat) (hu : Up lot) (hm : ∀ x ∈ lot, x < many) : callN P (n + 3) 2 [.fz (.int (many : Int)), .fz (tup lot)] = .ok false (.lst []) [] := by
  have lp := forGo_list (g := .tup (.cons (.nm 2 false) (.cons (.nm 3 false) .nil))) (body := fun ρ => evS ⟨callN P (n + 2), P.glob, P.rep⟩ P.fuel (.ite (.or (.not (.call 1 (.cons (.var 3) (.cons (.int 0) (.cons (.bin .sub (.var 0) (.int 1)) .nil))))) (.and (.cmp (.var 2) (.link .gt (.int 0) .nil)) (.cmp (.var 3) (.link .le (.ix (.var 1) (.bin .sub (.var 2) (.int 1))) .nil)))) (.ret (.lst (.cons (.var 2) .nil))) .skip) ρ)
    (fun _ ρ => ρ = [some (.fz (.int (many : Int))), some (.fz (tup lot)), none, none] ∨ ∃ a b, ρ = [some (.fz (.int (many : Int))), some (.fz (tup lot)), some (.fz a), some (.fz b)]) (numbered 0 (nats lot)) [some (.fz (.int (many : Int))), some (.fz (tup lot)), none, none] (.inl rfl) (fun i x ρ hx hI => ?_)
  · obtain ⟨ρ', q1, q2⟩ := lp
    refine call_fr (ρ' := ρ') fn_wrong_in_lot rfl ((seq_nx (ρ1 := [some (.fz (.int (many : Int))), some (.fz (tup lot)), none, none]) (by simp [f_wrong_in_lot, v_nil, v_cons, v_star, v_bor, v_lend, v_var, v_give, v_int, v_bl, v_non, v_str, v_glob, v_bin, v_neg, v_not, v_cmp, v_cmp2, v_and, v_or, v_ite, v_tup, v_lst, v_ix, v_sl, v_call, v_callK, v_bi, v_divmod, v_mt, v_app, v_isi, v_itP, v_itE, v_rev, v_dnil, v_dkv, v_dun, v_dds, w_skip, w_seq, w_ex, w_asg, w_par, w_ite, w_ret, w_retN, Ev.R.c1, Ev.R.ca, Ev.R.cl, Ev.R.co, Ev.R.ci, Ev.R.cf, Ev.R.fl, slot, rd, Ev.Slot.d, tests, truD, tk, tkAll, rdAll, tkFr, tkS1, tkSl, parG, ofOpt, asgT, Ev.T.count, asgG, Ev.asgG.asgGs, putS, runCall, lendOk, mems, argsOf, argOf, outsTo, outsOf, finish, walkOf, itemsD, needLock, lock, Ev.F.unlock, unlock, hide, testOf, permD, binD, intD, addD, itemD, setD, biD, b_lenL, b_lenT, nats_length, bInt, bList, b_tupL, b_tupT, b_sortD, b_sortN, isiD, c_lt, c_le, c_gt, c_ge, c_eqI, c_neI, c_inL, c_inT, c_ninL, c_ninT, c_inD, len_dictN, List.map_cons, List.map_nil, List.length_cons, List.length_nil, List.replicate_succ, List.replicate_zero, List.cons_append, List.nil_append, List.append_nil, List.getElem?_cons_zero, List.getElem?_cons_succ, List.set_cons_zero, List.set_cons_succ, Option.map_some, Option.map_none, Option.bind_some, Option.any_some, tup])).trans ((seq_nx (loop_nx (l := numbered 0 (nats lot)) (by simp [v_nil, v_cons, v_star, v_bor, v_lend, v_var, v_give, v_int, v_bl, v_non, v_str, v_glob, v_bin, v_neg, v_not, v_cmp, v_cmp2, v_and, v_or, v_ite, v_tup, v_lst, v_ix, v_sl, v_call, v_callK, v_bi, v_divmod, v_mt, v_app, v_isi, v_itP, v_itE, v_rev, v_dnil, v_dkv, v_dun, v_dds, w_skip, w_seq, w_ex, w_asg, w_par, w_ite, w_ret, w_retN, Ev.R.c1, Ev.R.ca, Ev.R.cl, Ev.R.co, Ev.R.ci, Ev.R.cf, Ev.R.fl, slot, rd, Ev.Slot.d, tests, truD, tk, tkAll, rdAll, tkFr, tkS1, tkSl, parG, ofOpt, asgT, Ev.T.count, asgG, Ev.asgG.asgGs, putS, runCall, lendOk, mems, argsOf, argOf, outsTo, outsOf, finish, walkOf, itemsD, needLock, lock, Ev.F.unlock, unlock, hide, testOf, permD, binD, intD, addD, itemD, setD, biD, b_lenL, b_lenT, nats_length, bInt, bList, b_tupL, b_tupT, b_sortD, b_sortN, isiD, c_lt, c_le, c_gt, c_ge, c_eqI, c_neI, c_inL, c_inT, c_ninL, c_ninT, c_inD, len_dictN, List.map_cons, List.map_nil, List.length_cons, List.length_nil, List.replicate_succ, List.replicate_zero, List.cons_append, List.nil_append, List.append_nil, List.getElem?_cons_zero, List.getElem?_cons_succ, List.set_cons_zero, List.set_cons_succ, Option.map_some, Option.map_none, Option.bind_some, Option.any_some, tup]) q1)).trans (by simp [v_nil, v_cons, v_star, v_bor, v_lend, v_var, v_give, v_int, v_bl, v_non, v_str, v_glob, v_bin, v_neg, v_not, v_cmp, v_cmp2, v_and, v_or, v_ite, v_tup, v_lst, v_ix, v_sl, v_call, v_callK, v_bi, v_divmod, v_mt, v_app, v_isi, v_itP, v_itE, v_rev, v_dnil, v_dkv, v_dun, v_dds, w_skip, w_seq, w_ex, w_asg, w_par, w_ite, w_ret, w_retN, Ev.R.c1, Ev.R.ca, Ev.R.cl, Ev.R.co, Ev.R.ci, Ev.R.cf, Ev.R.fl, slot, rd, Ev.Slot.d, tests, truD, tk, tkAll, rdAll, tkFr, tkS1, tkSl, parG, ofOpt, asgT, Ev.T.count, asgG, Ev.asgG.asgGs, putS, runCall, lendOk, mems, argsOf, argOf, outsTo, outsOf, finish, walkOf, itemsD, needLock, lock, Ev.F.unlock, unlock, hide, testOf, permD, binD, intD, addD, itemD, setD, biD, b_lenL, b_lenT, nats_length, bInt, bList, b_tupL, b_tupT, b_sortD, b_sortN, isiD, c_lt, c_le, c_gt, c_ge, c_eqI, c_neI, c_inL, c_inT, c_ninL, c_ninT, c_inD, len_dictN, List.map_cons, List.map_nil, List.length_cons, List.length_nil, List.replicate_succ, List.replicate_zero, List.cons_append, List.nil_append, List.append_nil, List.getElem?_cons_zero, List.getElem?_cons_succ, List.set_cons_zero, List.set_cons_succ, Option.map_some, Option.map_none, Option.bind_some, Option.any_some, LIM]))) ?_
    rcases q2 with rfl | ⟨a, b, rfl⟩ <;> simp [outsOf]
  · rw [numbered_at] at hx
    obtain ⟨d, hd, rfl⟩ := Option.map_eq_some_iff.mp hx
    rw [nats_get] at hd
    obtain ⟨k, hk, rfl⟩ := Option.map_eq_some_iff.mp hd
    rw [Nat.zero_add]
    refine ⟨[some (.fz (.int (many : Int))), some (.fz (tup lot)), some (.fz (.int (i : Int))), some (.fz (.int (k : Int)))], ?_, [some (.fz (.int (many : Int))), some (.fz (tup lot)), some (.fz (.int (i : Int))), some (.fz (.int (k : Int)))], .inl ?_, .inr ⟨_, _, rfl⟩⟩
    · rcases hI with rfl | ⟨a, b, rfl⟩ <;> simp [v_nil, v_cons, v_star, v_bor, v_lend, v_var, v_give, v_int, v_bl, v_non, v_str, v_glob, v_bin, v_neg, v_not, v_cmp, v_cmp2, v_and, v_or, v_ite, v_tup, v_lst, v_ix, v_sl, v_call, v_callK, v_bi, v_divmod, v_mt, v_app, v_isi, v_itP, v_itE, v_rev, v_dnil, v_dkv, v_dun, v_dds, w_skip, w_seq, w_ex, w_asg, w_par, w_ite, w_ret, w_retN, Ev.R.c1, Ev.R.ca, Ev.R.cl, Ev.R.co, Ev.R.ci, Ev.R.cf, Ev.R.fl, slot, rd, Ev.Slot.d, tests, truD, tk, tkAll, rdAll, tkFr, tkS1, tkSl, parG, ofOpt, asgT, Ev.T.count, asgG, Ev.asgG.asgGs, putS, runCall, lendOk, mems, argsOf, argOf, outsTo, outsOf, finish, walkOf, itemsD, needLock, lock, Ev.F.unlock, unlock, hide, testOf, permD, binD, intD, addD, itemD, setD, biD, b_lenL, b_lenT, nats_length, bInt, bList, b_tupL, b_tupT, b_sortD, b_sortN, isiD, c_lt, c_le, c_gt, c_ge, c_eqI, c_neI, c_inL, c_inT, c_ninL, c_ninT, c_inD, len_dictN, List.map_cons, List.map_nil, List.length_cons, List.length_nil, List.replicate_succ, List.replicate_zero, List.cons_append, List.nil_append, List.append_nil, List.getElem?_cons_zero, List.getElem?_cons_succ, List.set_cons_zero, List.set_cons_succ, Option.map_some, Option.map_none, Option.bind_some, Option.any_some]
    · have hk2 := hm k (List.mem_of_getElem? hk)
      have c1 : (0 : Int) ≤ (k : Int) ∧ (k : Int) ≤ (many : Int) - 1 := by omega
      cases i with
      | zero => simp [v_nil, v_cons, v_star, v_bor, v_lend, v_var, v_give, v_int, v_bl, v_non, v_str, v_glob, v_bin, v_neg, v_not, v_cmp, v_cmp2, v_and, v_or, v_ite, v_tup, v_lst, v_ix, v_sl, v_call, v_callK, v_bi, v_divmod, v_mt, v_app, v_isi, v_itP, v_itE, v_rev, v_dnil, v_dkv, v_dun, v_dds, w_skip, w_seq, w_ex, w_asg, w_par, w_ite, w_ret, w_retN, Ev.R.c1, Ev.R.ca, Ev.R.cl, Ev.R.co, Ev.R.ci, Ev.R.cf, Ev.R.fl, slot, rd, Ev.Slot.d, tests, truD, tk, tkAll, rdAll, tkFr, tkS1, tkSl, parG, ofOpt, asgT, Ev.T.count, asgG, Ev.asgG.asgGs, putS, runCall, lendOk, mems, argsOf, argOf, outsTo, outsOf, finish, walkOf, itemsD, needLock, lock, Ev.F.unlock, unlock, hide, testOf, permD, binD, intD, addD, itemD, setD, biD, b_lenL, b_lenT, nats_length, bInt, bList, b_tupL, b_tupT, b_sortD, b_sortN, isiD, c_lt, c_le, c_gt, c_ge, c_eqI, c_neI, c_inL, c_inT, c_ninL, c_ninT, c_inD, len_dictN, List.map_cons, List.map_nil, List.length_cons, List.length_nil, List.replicate_succ, List.replicate_zero, List.cons_append, List.nil_append, List.append_nil, List.getElem?_cons_zero, List.getElem?_cons_succ, List.set_cons_zero, List.set_cons_succ, Option.map_some, Option.map_none, Option.bind_some, Option.any_some, between_ok, c1]
      | succ i =>
        have hi : i < lot.length := by have := (List.getElem?_eq_some_iff.mp hk).1; omega
        have hlt : lot[i] < k := up_at hu (List.getElem?_eq_getElem hi) hk
        have e1 : ((i : Int) + 1 - 1) = (i : Int) := by omega
        have c3 : ¬ (k : Int) ≤ ((lot[i] : Nat) : Int) := by omega
        have c5 : (0 : Int) < (i : Int) + 1 := by omega
        simp [v_nil, v_cons, v_star, v_bor, v_lend, v_var, v_give, v_int, v_bl, v_non, v_str, v_glob, v_bin, v_neg, v_not, v_cmp, v_cmp2, v_and, v_or, v_ite, v_tup, v_lst, v_ix, v_sl, v_call, v_callK, v_bi, v_divmod, v_mt, v_app, v_isi, v_itP, v_itE, v_rev, v_dnil, v_dkv, v_dun, v_dds, w_skip, w_seq, w_ex, w_asg, w_par, w_ite, w_ret, w_retN, Ev.R.c1, Ev.R.ca, Ev.R.cl, Ev.R.co, Ev.R.ci, Ev.R.cf, Ev.R.fl, slot, rd, Ev.Slot.d, tests, truD, tk, tkAll, rdAll, tkFr, tkS1, tkSl, parG, ofOpt, asgT, Ev.T.count, asgG, Ev.asgG.asgGs, putS, runCall, lendOk, mems, argsOf, argOf, outsTo, outsOf, finish, walkOf, itemsD, needLock, lock, Ev.F.unlock, unlock, hide, testOf, permD, binD, intD, addD, itemD, setD, biD, b_lenL, b_lenT, nats_length, bInt, bList, b_tupL, b_tupT, b_sortD, b_sortN, isiD, c_lt, c_le, c_gt, c_ge, c_eqI, c_neI, c_inL, c_inT, c_ninL, c_ninT, c_inD, len_dictN, List.map_cons, List.map_nil, List.length_cons, List.length_nil, List.replicate_succ, List.replicate_zero, List.cons_append, List.nil_append, List.append_nil, List.getElem?_cons_zero, List.getElem?_cons_succ, List.set_cons_zero, List.set_cons_succ, Option.map_some, Option.map_none, Option.bind_some, Option.any_some, between_ok, c1, e1, ix_nat hi, nats_at hi, c3, c5, tup]
end K75

/-! ### pieces of cells -/
namespace K75
open Ev
variable {P : Prog} [Has P]
def nbL (nb : List (List Nat)) : D := .lst (tups nb)
theorem fn_pairs_in : P.fns[7]? = some f_pairs_in := by rw [Has.fns]; rfl
theorem tups_at {l : List (List Nat)} {i : Nat} (h : i < l.length) : (tups l)[i]? = some (tup (l.getD i [])) := by
  unfold tups
  rw [List.getElem?_map, List.getElem?_eq_getElem h, List.getD_eq_getElem?_getD, List.getElem?_eq_getElem h]
  rfl
theorem tups_length (l : List (List Nat)) : (tups l).length = l.length := List.length_map ..
theorem pairs_ok (n : Nat) (nb : List (List Nat)) (lot : List Nat) (hl : lot.length ≤ 100) (hb : ∀ x ∈ lot, x < nb.length) (hn : ∀ x ∈ nb, x.length ≤ 100) :
    callN P (n + 1) 7 [.fz (nbL nb), .fz (tup lot)] = .ok false (prs (pairsIn nb lot)) [] := by
  have e : ev ⟨callN P n, P.glob, P.rep⟩ (.lc2 (.nm 2 false) (.itP (.var 1)) (.bl true) (.nm 3 false) (.itP (.ix (.var 0) (.var 2))) (.and (.cmp (.var 2) (.link .lt (.var 3) .nil)) (.cmp (.var 3) (.link .isin (.var 1) .nil))) (.tup (.cons (.var 2) (.cons (.var 3) .nil))) [2, 3] [3]) [some (.fz (nbL nb)), some (.fz (tup lot)), none, none]
      = .ok (.fr (prs (pairsIn nb lot))) [some (.fz (nbL nb)), some (.fz (tup lot)), none, none] := by
    rw [lc2_is (T := fun k : Nat => D.int (k : Int)) (T1 := fun k : Nat => D.int (k : Int)) (c := fun _ => true) (m := fun one => nb.getD one []) (b := fun one two => decide (one < two) && decide (two ∈ lot)) (f := fun one two => pr (one, two)) (l := lot) (by simp [tup, v_nil, v_cons, v_star, v_bor, v_lend, v_var, v_give, v_int, v_bl, v_non, v_str, v_glob, v_bin, v_neg, v_not, v_cmp, v_cmp2, v_and, v_or, v_ite, v_tup, v_lst, v_ix, v_sl, v_call, v_callK, v_bi, v_divmod, v_mt, v_app, v_isi, v_itP, v_itE, v_rev, v_dnil, v_dkv, v_dun, v_dds, w_skip, w_seq, w_ex, w_asg, w_par, w_ite, w_ret, w_retN, Ev.R.c1, Ev.R.ca, Ev.R.cl, Ev.R.co, Ev.R.ci, Ev.R.cf, Ev.R.fl, slot, rd, Ev.Slot.d, tests, truD, tk, tkAll, rdAll, tkFr, tkS1, tkSl, parG, ofOpt, asgT, Ev.T.count, asgG, Ev.asgG.asgGs, putS, runCall, lendOk, mems, argsOf, argOf, outsTo, outsOf, finish, walkOf, itemsD, needLock, lock, Ev.F.unlock, unlock, hide, testOf, permD, binD, intD, addD, itemD, setD, biD, b_lenL, b_lenT, nats_length, bInt, bList, b_tupL, b_tupT, b_sortD, b_sortN, isiD, c_lt, c_le, c_gt, c_ge, c_eqI, c_neI, c_inL, c_inT, c_ninL, c_ninT, c_inD, len_dictN, List.map_cons, List.map_nil, List.length_cons, List.length_nil, List.replicate_succ, List.replicate_zero, List.cons_append, List.nil_append, List.append_nil, List.getElem?_cons_zero, List.getElem?_cons_succ, List.set_cons_zero, List.set_cons_succ, Option.map_some, Option.map_none, Option.bind_some, Option.any_some, nats]) (by decide) (fun x hx => ⟨[some (.fz (nbL nb)), some (.fz (tup lot)), some (.fz (.int (x : Int))), none], rfl, rfl, by simp [Is, v_nil, v_cons, v_star, v_bor, v_lend, v_var, v_give, v_int, v_bl, v_non, v_str, v_glob, v_bin, v_neg, v_not, v_cmp, v_cmp2, v_and, v_or, v_ite, v_tup, v_lst, v_ix, v_sl, v_call, v_callK, v_bi, v_divmod, v_mt, v_app, v_isi, v_itP, v_itE, v_rev, v_dnil, v_dkv, v_dun, v_dds, w_skip, w_seq, w_ex, w_asg, w_par, w_ite, w_ret, w_retN, Ev.R.c1, Ev.R.ca, Ev.R.cl, Ev.R.co, Ev.R.ci, Ev.R.cf, Ev.R.fl, slot, rd, Ev.Slot.d, tests, truD, tk, tkAll, rdAll, tkFr, tkS1, tkSl, parG, ofOpt, asgT, Ev.T.count, asgG, Ev.asgG.asgGs, putS, runCall, lendOk, mems, argsOf, argOf, outsTo, outsOf, finish, walkOf, itemsD, needLock, lock, Ev.F.unlock, unlock, hide, testOf, permD, binD, intD, addD, itemD, setD, biD, b_lenL, b_lenT, nats_length, bInt, bList, b_tupL, b_tupT, b_sortD, b_sortN, isiD, c_lt, c_le, c_gt, c_ge, c_eqI, c_neI, c_inL, c_inT, c_ninL, c_ninT, c_inD, len_dictN, List.map_cons, List.map_nil, List.length_cons, List.length_nil, List.replicate_succ, List.replicate_zero, List.cons_append, List.nil_append, List.append_nil, List.getElem?_cons_zero, List.getElem?_cons_succ, List.set_cons_zero, List.set_cons_succ, Option.map_some, Option.map_none, Option.bind_some, Option.any_some], fun _ => ⟨?_, ?_, rfl, fun y hy => ⟨[some (.fz (nbL nb)), some (.fz (tup lot)), some (.fz (.int (x : Int))), some (.fz (.int (y : Int)))], rfl, rfl, ?_, fun _ => by simp [Is, v_nil, v_cons, v_star, v_bor, v_lend, v_var, v_give, v_int, v_bl, v_non, v_str, v_glob, v_bin, v_neg, v_not, v_cmp, v_cmp2, v_and, v_or, v_ite, v_tup, v_lst, v_ix, v_sl, v_call, v_callK, v_bi, v_divmod, v_mt, v_app, v_isi, v_itP, v_itE, v_rev, v_dnil, v_dkv, v_dun, v_dds, w_skip, w_seq, w_ex, w_asg, w_par, w_ite, w_ret, w_retN, Ev.R.c1, Ev.R.ca, Ev.R.cl, Ev.R.co, Ev.R.ci, Ev.R.cf, Ev.R.fl, slot, rd, Ev.Slot.d, tests, truD, tk, tkAll, rdAll, tkFr, tkS1, tkSl, parG, ofOpt, asgT, Ev.T.count, asgG, Ev.asgG.asgGs, putS, runCall, lendOk, mems, argsOf, argOf, outsTo, outsOf, finish, walkOf, itemsD, needLock, lock, Ev.F.unlock, unlock, hide, testOf, permD, binD, intD, addD, itemD, setD, biD, b_lenL, b_lenT, nats_length, bInt, bList, b_tupL, b_tupT, b_sortD, b_sortN, isiD, c_lt, c_le, c_gt, c_ge, c_eqI, c_neI, c_inL, c_inT, c_ninL, c_ninT, c_inD, len_dictN, List.map_cons, List.map_nil, List.length_cons, List.length_nil, List.replicate_succ, List.replicate_zero, List.cons_append, List.nil_append, List.append_nil, List.getElem?_cons_zero, List.getElem?_cons_succ, List.set_cons_zero, List.set_cons_succ, Option.map_some, Option.map_none, Option.bind_some, Option.any_some, pr, LIM]⟩⟩⟩) (by omega)]
    · unfold prs pairsIn
      rw [List.map_flatMap]
      simp [Function.comp_def]
    · have h1 : ixD (tups nb).length (x : Int) = some x := ix_nat (by rw [tups_length]; exact hb x hx)
      simp [nbL, v_nil, v_cons, v_star, v_bor, v_lend, v_var, v_give, v_int, v_bl, v_non, v_str, v_glob, v_bin, v_neg, v_not, v_cmp, v_cmp2, v_and, v_or, v_ite, v_tup, v_lst, v_ix, v_sl, v_call, v_callK, v_bi, v_divmod, v_mt, v_app, v_isi, v_itP, v_itE, v_rev, v_dnil, v_dkv, v_dun, v_dds, w_skip, w_seq, w_ex, w_asg, w_par, w_ite, w_ret, w_retN, Ev.R.c1, Ev.R.ca, Ev.R.cl, Ev.R.co, Ev.R.ci, Ev.R.cf, Ev.R.fl, slot, rd, Ev.Slot.d, tests, truD, tk, tkAll, rdAll, tkFr, tkS1, tkSl, parG, ofOpt, asgT, Ev.T.count, asgG, Ev.asgG.asgGs, putS, runCall, lendOk, mems, argsOf, argOf, outsTo, outsOf, finish, walkOf, itemsD, needLock, lock, Ev.F.unlock, unlock, hide, testOf, permD, binD, intD, addD, itemD, setD, biD, b_lenL, b_lenT, nats_length, bInt, bList, b_tupL, b_tupT, b_sortD, b_sortN, isiD, c_lt, c_le, c_gt, c_ge, c_eqI, c_neI, c_inL, c_inT, c_ninL, c_ninT, c_inD, len_dictN, List.map_cons, List.map_nil, List.length_cons, List.length_nil, List.replicate_succ, List.replicate_zero, List.cons_append, List.nil_append, List.append_nil, List.getElem?_cons_zero, List.getElem?_cons_succ, List.set_cons_zero, List.set_cons_succ, Option.map_some, Option.map_none, Option.bind_some, Option.any_some, h1, tups_at (hb x hx), tup, nats]
    · have hx' := hb x hx
      rw [List.getD_eq_getElem?_getD, List.getElem?_eq_getElem hx']
      have := hn _ (List.getElem_mem hx')
      show nb[x].length ≤ 1000
      omega
    · by_cases c : x < y
      · simp [Is, v_nil, v_cons, v_star, v_bor, v_lend, v_var, v_give, v_int, v_bl, v_non, v_str, v_glob, v_bin, v_neg, v_not, v_cmp, v_cmp2, v_and, v_or, v_ite, v_tup, v_lst, v_ix, v_sl, v_call, v_callK, v_bi, v_divmod, v_mt, v_app, v_isi, v_itP, v_itE, v_rev, v_dnil, v_dkv, v_dun, v_dds, w_skip, w_seq, w_ex, w_asg, w_par, w_ite, w_ret, w_retN, Ev.R.c1, Ev.R.ca, Ev.R.cl, Ev.R.co, Ev.R.ci, Ev.R.cf, Ev.R.fl, slot, rd, Ev.Slot.d, tests, truD, tk, tkAll, rdAll, tkFr, tkS1, tkSl, parG, ofOpt, asgT, Ev.T.count, asgG, Ev.asgG.asgGs, putS, runCall, lendOk, mems, argsOf, argOf, outsTo, outsOf, finish, walkOf, itemsD, needLock, lock, Ev.F.unlock, unlock, hide, testOf, permD, binD, intD, addD, itemD, setD, biD, b_lenL, b_lenT, nats_length, bInt, bList, b_tupL, b_tupT, b_sortD, b_sortN, isiD, c_lt, c_le, c_gt, c_ge, c_eqI, c_neI, c_inL, c_inT, c_ninL, c_ninT, c_inD, len_dictN, List.map_cons, List.map_nil, List.length_cons, List.length_nil, List.replicate_succ, List.replicate_zero, List.cons_append, List.nil_append, List.append_nil, List.getElem?_cons_zero, List.getElem?_cons_succ, List.set_cons_zero, List.set_cons_succ, Option.map_some, Option.map_none, Option.bind_some, Option.any_some, c, tup]
      · simp [Is, v_nil, v_cons, v_star, v_bor, v_lend, v_var, v_give, v_int, v_bl, v_non, v_str, v_glob, v_bin, v_neg, v_not, v_cmp, v_cmp2, v_and, v_or, v_ite, v_tup, v_lst, v_ix, v_sl, v_call, v_callK, v_bi, v_divmod, v_mt, v_app, v_isi, v_itP, v_itE, v_rev, v_dnil, v_dkv, v_dun, v_dds, w_skip, w_seq, w_ex, w_asg, w_par, w_ite, w_ret, w_retN, Ev.R.c1, Ev.R.ca, Ev.R.cl, Ev.R.co, Ev.R.ci, Ev.R.cf, Ev.R.fl, slot, rd, Ev.Slot.d, tests, truD, tk, tkAll, rdAll, tkFr, tkS1, tkSl, parG, ofOpt, asgT, Ev.T.count, asgG, Ev.asgG.asgGs, putS, runCall, lendOk, mems, argsOf, argOf, outsTo, outsOf, finish, walkOf, itemsD, needLock, lock, Ev.F.unlock, unlock, hide, testOf, permD, binD, intD, addD, itemD, setD, biD, b_lenL, b_lenT, nats_length, bInt, bList, b_tupL, b_tupT, b_sortD, b_sortN, isiD, c_lt, c_le, c_gt, c_ge, c_eqI, c_neI, c_inL, c_inT, c_ninL, c_ninT, c_inD, len_dictN, List.map_cons, List.map_nil, List.length_cons, List.length_nil, List.replicate_succ, List.replicate_zero, List.cons_append, List.nil_append, List.append_nil, List.getElem?_cons_zero, List.getElem?_cons_succ, List.set_cons_zero, List.set_cons_succ, Option.map_some, Option.map_none, Option.bind_some, Option.any_some, c]
  exact call_fr (ρ' := [some (.fz (nbL nb)), some (.fz (tup lot)), none, none]) fn_pairs_in rfl (by simp [f_pairs_in, v_nil, v_cons, v_star, v_bor, v_lend, v_var, v_give, v_int, v_bl, v_non, v_str, v_glob, v_bin, v_neg, v_not, v_cmp, v_cmp2, v_and, v_or, v_ite, v_tup, v_lst, v_ix, v_sl, v_call, v_callK, v_bi, v_divmod, v_mt, v_app, v_isi, v_itP, v_itE, v_rev, v_dnil, v_dkv, v_dun, v_dds, w_skip, w_seq, w_ex, w_asg, w_par, w_ite, w_ret, w_retN, Ev.R.c1, Ev.R.ca, Ev.R.cl, Ev.R.co, Ev.R.ci, Ev.R.cf, Ev.R.fl, slot, rd, Ev.Slot.d, tests, truD, tk, tkAll, rdAll, tkFr, tkS1, tkSl, parG, ofOpt, asgT, Ev.T.count, asgG, Ev.asgG.asgGs, putS, runCall, lendOk, mems, argsOf, argOf, outsTo, outsOf, finish, walkOf, itemsD, needLock, lock, Ev.F.unlock, unlock, hide, testOf, permD, binD, intD, addD, itemD, setD, biD, b_lenL, b_lenT, nats_length, bInt, bList, b_tupL, b_tupT, b_sortD, b_sortN, isiD, c_lt, c_le, c_gt, c_ge, c_eqI, c_neI, c_inL, c_inT, c_ninL, c_ninT, c_inD, len_dictN, List.map_cons, List.map_nil, List.length_cons, List.length_nil, List.replicate_succ, List.replicate_zero, List.cons_append, List.nil_append, List.append_nil, List.getElem?_cons_zero, List.getElem?_cons_succ, List.set_cons_zero, List.set_cons_succ, Option.map_some, Option.map_none, Option.bind_some, Option.any_some, e]) (by simp [outsOf])
noncomputable section
def piecesIn (N : Nat) (nb : List (List Nat)) (lot : List Nat) : List (List Nat) := sortBy ltT (roomsIn N nb lot)
end
theorem pairsIn_under {N : Nat} {nb : List (List Nat)} {lot : List Nat} (h : ∀ x ∈ lot, x < N) : Under N (pairsIn nb lot) := fun q hq => by
  unfold pairsIn at hq
  obtain ⟨one, h1, h2⟩ := List.mem_flatMap.mp hq
  obtain ⟨two, h3, rfl⟩ := List.mem_map.mp h2
  have h4 := (List.mem_filter.mp h3).2
  simp only [Bool.and_eq_true, decide_eq_true_eq] at h4
  exact ⟨h _ h1, h _ h4.2⟩
theorem pairsIn_length {nb : List (List Nat)} {lot : List Nat} (hl : lot.length ≤ 20) (hn : ∀ x ∈ nb, x.length ≤ 20) : (pairsIn nb lot).length ≤ 1000 := by
  have : ∀ l : List Nat, (l.flatMap fun one => ((nb.getD one []).filter fun two => decide (one < two) && decide (two ∈ lot)).map fun two => (one, two)).length ≤ 20 * l.length := fun l => by
    induction l with
    | nil => simp
    | cons x l ih =>
      rw [List.flatMap_cons, List.length_append, List.length_map, List.length_cons]
      have h1 := List.length_filter_le (fun two => decide (x < two) && decide (two ∈ lot)) (nb.getD x [])
      have h2 : (nb.getD x []).length ≤ 20 := by
        by_cases c : x < nb.length
        · rw [List.getD_eq_getElem?_getD, List.getElem?_eq_getElem c]
          exact hn _ (List.getElem_mem c)
        · rw [List.getD_eq_getElem?_getD, List.getElem?_eq_none (by omega)]
          simp
      omega
  have := this lot
  unfold pairsIn
  omega
theorem fold_keysT {β : Type} (r : β → List Nat) (xs : List β) (l : List (List Nat)) : xs.foldl (fun acc x => dput (tup (r x)) (.bl true) acc) (keysD tup l) = keysD tup ((xs.map r).foldl addK l) := by
  induction xs generalizing l with
  | nil => rfl
  | cons x xs ih =>
    rw [List.foldl_cons, List.map_cons, List.foldl_cons, ← ih]
    congr 1
    exact dput_keys tup eqD_tup (r x) l
theorem fn_pieces_in : P.fns[8]? = some f_pieces_in := by rw [Has.fns]; rfl
theorem roomsIn_ne {N : Nat} {nb : List (List Nat)} {lot : List Nat} (h : ∀ x ∈ lot, x < N) : ∀ r ∈ roomsIn N nb lot, r ≠ [] := fun r hr => by
  unfold roomsIn at hr
  rw [addAll_mem] at hr
  rcases hr with hr | hr
  · cases hr
  · obtain ⟨a, ha, rfl⟩ := List.mem_map.mp hr
    have : a ∈ roomOf N (pairsIn nb lot) a := roomOf_mem.mpr ⟨h a ha, .refl⟩
    intro e
    rw [e] at this
    cases this
theorem pieces_ok (n N : Nat) (nb : List (List Nat)) (lot : List Nat) (hl : lot.length ≤ 20) (hb : ∀ x ∈ lot, x < nb.length) (hn : ∀ x ∈ nb, x.length ≤ 20) (hN : ∀ x ∈ lot, x < N) :
    callN P (n + 3) 8 [.fz (nbL nb), .fz (tup lot)] = .ok false (.lst (tups (piecesIn N nb lot))) [] := by
  have hu := pairsIn_under (nb := nb) hN
  have hE := pairsIn_length hl hn
  have p := pairs_ok (P := P) (n + 1) nb lot (by omega) hb fun x hx => by have := hn x hx; omega
  have e : ev ⟨callN P (n + 2), P.glob, P.rep⟩ (.dc true (.nm 3 false) (.itP (.var 1)) (.bl true) (.call 5 (.cons (.var 3) (.cons (.var 2) .nil))) (.bl true) [3]) [some (.fz (nbL nb)), some (.fz (tup lot)), some (.fz (prs (pairsIn nb lot))), none]
      = .ok (.fr (dictT (roomsIn N nb lot))) [some (.fz (nbL nb)), some (.fz (tup lot)), some (.fz (prs (pairsIn nb lot))), none] := by
    rw [dc_is (T := fun k : Nat => D.int (k : Int)) (κ := fun k => tup (roomOf N (pairsIn nb lot) k)) (ν := fun _ => .bl true) (l := lot) (by simp [tup, v_nil, v_cons, v_star, v_bor, v_lend, v_var, v_give, v_int, v_bl, v_non, v_str, v_glob, v_bin, v_neg, v_not, v_cmp, v_cmp2, v_and, v_or, v_ite, v_tup, v_lst, v_ix, v_sl, v_call, v_callK, v_bi, v_divmod, v_mt, v_app, v_isi, v_itP, v_itE, v_rev, v_dnil, v_dkv, v_dun, v_dds, w_skip, w_seq, w_ex, w_asg, w_par, w_ite, w_ret, w_retN, Ev.R.c1, Ev.R.ca, Ev.R.cl, Ev.R.co, Ev.R.ci, Ev.R.cf, Ev.R.fl, slot, rd, Ev.Slot.d, tests, truD, tk, tkAll, rdAll, tkFr, tkS1, tkSl, parG, ofOpt, asgT, Ev.T.count, asgG, Ev.asgG.asgGs, putS, runCall, lendOk, mems, argsOf, argOf, outsTo, outsOf, finish, walkOf, itemsD, needLock, lock, Ev.F.unlock, unlock, hide, testOf, permD, binD, intD, addD, itemD, setD, biD, b_lenL, b_lenT, nats_length, bInt, bList, b_tupL, b_tupT, b_sortD, b_sortN, isiD, c_lt, c_le, c_gt, c_ge, c_eqI, c_neI, c_inL, c_inT, c_ninL, c_ninT, c_inD, len_dictN, List.map_cons, List.map_nil, List.length_cons, List.length_nil, List.replicate_succ, List.replicate_zero, List.cons_append, List.nil_append, List.append_nil, List.getElem?_cons_zero, List.getElem?_cons_succ, List.set_cons_zero, List.set_cons_succ, Option.map_some, Option.map_none, Option.bind_some, Option.any_some, nats]) (fun x hx => ⟨[some (.fz (nbL nb)), some (.fz (tup lot)), some (.fz (prs (pairsIn nb lot))), some (.fz (.int (x : Int)))], rfl, rfl, by simp [Is, v_nil, v_cons, v_star, v_bor, v_lend, v_var, v_give, v_int, v_bl, v_non, v_str, v_glob, v_bin, v_neg, v_not, v_cmp, v_cmp2, v_and, v_or, v_ite, v_tup, v_lst, v_ix, v_sl, v_call, v_callK, v_bi, v_divmod, v_mt, v_app, v_isi, v_itP, v_itE, v_rev, v_dnil, v_dkv, v_dun, v_dds, w_skip, w_seq, w_ex, w_asg, w_par, w_ite, w_ret, w_retN, Ev.R.c1, Ev.R.ca, Ev.R.cl, Ev.R.co, Ev.R.ci, Ev.R.cf, Ev.R.fl, slot, rd, Ev.Slot.d, tests, truD, tk, tkAll, rdAll, tkFr, tkS1, tkSl, parG, ofOpt, asgT, Ev.T.count, asgG, Ev.asgG.asgGs, putS, runCall, lendOk, mems, argsOf, argOf, outsTo, outsOf, finish, walkOf, itemsD, needLock, lock, Ev.F.unlock, unlock, hide, testOf, permD, binD, intD, addD, itemD, setD, biD, b_lenL, b_lenT, nats_length, bInt, bList, b_tupL, b_tupT, b_sortD, b_sortN, isiD, c_lt, c_le, c_gt, c_ge, c_eqI, c_neI, c_inL, c_inT, c_ninL, c_ninT, c_inD, len_dictN, List.map_cons, List.map_nil, List.length_cons, List.length_nil, List.replicate_succ, List.replicate_zero, List.cons_append, List.nil_append, List.append_nil, List.getElem?_cons_zero, List.getElem?_cons_succ, List.set_cons_zero, List.set_cons_succ, Option.map_some, Option.map_none, Option.bind_some, Option.any_some], by simp [Is, v_nil, v_cons, v_star, v_bor, v_lend, v_var, v_give, v_int, v_bl, v_non, v_str, v_glob, v_bin, v_neg, v_not, v_cmp, v_cmp2, v_and, v_or, v_ite, v_tup, v_lst, v_ix, v_sl, v_call, v_callK, v_bi, v_divmod, v_mt, v_app, v_isi, v_itP, v_itE, v_rev, v_dnil, v_dkv, v_dun, v_dds, w_skip, w_seq, w_ex, w_asg, w_par, w_ite, w_ret, w_retN, Ev.R.c1, Ev.R.ca, Ev.R.cl, Ev.R.co, Ev.R.ci, Ev.R.cf, Ev.R.fl, slot, rd, Ev.Slot.d, tests, truD, tk, tkAll, rdAll, tkFr, tkS1, tkSl, parG, ofOpt, asgT, Ev.T.count, asgG, Ev.asgG.asgGs, putS, runCall, lendOk, mems, argsOf, argOf, outsTo, outsOf, finish, walkOf, itemsD, needLock, lock, Ev.F.unlock, unlock, hide, testOf, permD, binD, intD, addD, itemD, setD, biD, b_lenL, b_lenT, nats_length, bInt, bList, b_tupL, b_tupT, b_sortD, b_sortN, isiD, c_lt, c_le, c_gt, c_ge, c_eqI, c_neI, c_inL, c_inT, c_ninL, c_ninT, c_inD, len_dictN, List.map_cons, List.map_nil, List.length_cons, List.length_nil, List.replicate_succ, List.replicate_zero, List.cons_append, List.nil_append, List.append_nil, List.getElem?_cons_zero, List.getElem?_cons_succ, List.set_cons_zero, List.set_cons_succ, Option.map_some, Option.map_none, Option.bind_some, Option.any_some, room_ok n N _ x hu (hN x hx) hE], by simp [Is, v_nil, v_cons, v_star, v_bor, v_lend, v_var, v_give, v_int, v_bl, v_non, v_str, v_glob, v_bin, v_neg, v_not, v_cmp, v_cmp2, v_and, v_or, v_ite, v_tup, v_lst, v_ix, v_sl, v_call, v_callK, v_bi, v_divmod, v_mt, v_app, v_isi, v_itP, v_itE, v_rev, v_dnil, v_dkv, v_dun, v_dds, w_skip, w_seq, w_ex, w_asg, w_par, w_ite, w_ret, w_retN, Ev.R.c1, Ev.R.ca, Ev.R.cl, Ev.R.co, Ev.R.ci, Ev.R.cf, Ev.R.fl, slot, rd, Ev.Slot.d, tests, truD, tk, tkAll, rdAll, tkFr, tkS1, tkSl, parG, ofOpt, asgT, Ev.T.count, asgG, Ev.asgG.asgGs, putS, runCall, lendOk, mems, argsOf, argOf, outsTo, outsOf, finish, walkOf, itemsD, needLock, lock, Ev.F.unlock, unlock, hide, testOf, permD, binD, intD, addD, itemD, setD, biD, b_lenL, b_lenT, nats_length, bInt, bList, b_tupL, b_tupT, b_sortD, b_sortN, isiD, c_lt, c_le, c_gt, c_ge, c_eqI, c_neI, c_inL, c_inT, c_ninL, c_ninT, c_inD, len_dictN, List.map_cons, List.map_nil, List.length_cons, List.length_nil, List.replicate_succ, List.replicate_zero, List.cons_append, List.nil_append, List.append_nil, List.getElem?_cons_zero, List.getElem?_cons_succ, List.set_cons_zero, List.set_cons_succ, Option.map_some, Option.map_none, Option.bind_some, Option.any_some], by exact isKeyT_tup _⟩) (by omega)]
    have := fold_keysT (roomOf N (pairsIn nb lot)) lot []
    unfold dictT roomsIn
    rw [← this]
    rfl
  refine call_fr (ρ' := [some (.fz (nbL nb)), some (.fz (tup lot)), some (.fz (prs (pairsIn nb lot))), none]) fn_pieces_in rfl ((seq_nx (ρ1 := [some (.fz (nbL nb)), some (.fz (tup lot)), some (.fz (prs (pairsIn nb lot))), none]) (by simp [f_pieces_in, v_nil, v_cons, v_star, v_bor, v_lend, v_var, v_give, v_int, v_bl, v_non, v_str, v_glob, v_bin, v_neg, v_not, v_cmp, v_cmp2, v_and, v_or, v_ite, v_tup, v_lst, v_ix, v_sl, v_call, v_callK, v_bi, v_divmod, v_mt, v_app, v_isi, v_itP, v_itE, v_rev, v_dnil, v_dkv, v_dun, v_dds, w_skip, w_seq, w_ex, w_asg, w_par, w_ite, w_ret, w_retN, Ev.R.c1, Ev.R.ca, Ev.R.cl, Ev.R.co, Ev.R.ci, Ev.R.cf, Ev.R.fl, slot, rd, Ev.Slot.d, tests, truD, tk, tkAll, rdAll, tkFr, tkS1, tkSl, parG, ofOpt, asgT, Ev.T.count, asgG, Ev.asgG.asgGs, putS, runCall, lendOk, mems, argsOf, argOf, outsTo, outsOf, finish, walkOf, itemsD, needLock, lock, Ev.F.unlock, unlock, hide, testOf, permD, binD, intD, addD, itemD, setD, biD, b_lenL, b_lenT, nats_length, bInt, bList, b_tupL, b_tupT, b_sortD, b_sortN, isiD, c_lt, c_le, c_gt, c_ge, c_eqI, c_neI, c_inL, c_inT, c_ninL, c_ninT, c_inD, len_dictN, List.map_cons, List.map_nil, List.length_cons, List.length_nil, List.replicate_succ, List.replicate_zero, List.cons_append, List.nil_append, List.append_nil, List.getElem?_cons_zero, List.getElem?_cons_succ, List.set_cons_zero, List.set_cons_succ, Option.map_some, Option.map_none, Option.bind_some, Option.any_some, p])).trans ?_) (by simp [outsOf])
  have hs := b_sortT (roomsIn N nb lot) (roomsIn_ne hN)
  unfold dictT at hs e
  simp [v_nil, v_cons, v_star, v_bor, v_lend, v_var, v_give, v_int, v_bl, v_non, v_str, v_glob, v_bin, v_neg, v_not, v_cmp, v_cmp2, v_and, v_or, v_ite, v_tup, v_lst, v_ix, v_sl, v_call, v_callK, v_bi, v_divmod, v_mt, v_app, v_isi, v_itP, v_itE, v_rev, v_dnil, v_dkv, v_dun, v_dds, w_skip, w_seq, w_ex, w_asg, w_par, w_ite, w_ret, w_retN, Ev.R.c1, Ev.R.ca, Ev.R.cl, Ev.R.co, Ev.R.ci, Ev.R.cf, Ev.R.fl, slot, rd, Ev.Slot.d, tests, truD, tk, tkAll, rdAll, tkFr, tkS1, tkSl, parG, ofOpt, asgT, Ev.T.count, asgG, Ev.asgG.asgGs, putS, runCall, lendOk, mems, argsOf, argOf, outsTo, outsOf, finish, walkOf, itemsD, needLock, lock, Ev.F.unlock, unlock, hide, testOf, permD, binD, intD, addD, itemD, setD, biD, b_lenL, b_lenT, nats_length, bInt, bList, b_tupL, b_tupT, b_sortD, b_sortN, isiD, c_lt, c_le, c_gt, c_ge, c_eqI, c_neI, c_inL, c_inT, c_ninL, c_ninT, c_inD, len_dictN, List.map_cons, List.map_nil, List.length_cons, List.length_nil, List.replicate_succ, List.replicate_zero, List.cons_append, List.nil_append, List.append_nil, List.getElem?_cons_zero, List.getElem?_cons_succ, List.set_cons_zero, List.set_cons_succ, Option.map_some, Option.map_none, Option.bind_some, Option.any_some, e, hs, piecesIn]
def sidesL (s : List (List Nat)) : D := .lst (s.map fun x => .lst (nats x))
theorem fn_has_all : P.fns[9]? = some f_has_all := by rw [Has.fns]; rfl
theorem boolsD_map {α : Type} (f : α → Bool) (l : List α) : boolsD (l.map fun x => D.bl (f x)) = some (l.map f) := by
  induction l with
  | nil => rfl
  | cons x l ih =>
    rw [List.map_cons, List.map_cons]
    show (boolsD (l.map fun x => D.bl (f x))).map (f x :: ·) = _
    rw [ih]
    rfl
theorem any_map {α : Type} (f : α → Bool) (l : List α) : bAny [.lst (l.map fun x => D.bl (f x))] = some (.fz (.bl (l.any f))) := by
  show (boolsD _).map _ = _
  rw [boolsD_map]
  simp [List.any_map, Function.comp_def]
theorem all_map {α : Type} (f : α → Bool) (l : List α) : bAll [.lst (l.map fun x => D.bl (f x))] = some (.fz (.bl (l.all f))) := by
  show (boolsD _).map _ = _
  rw [boolsD_map]
  simp [List.all_map, Function.comp_def]
theorem has_ok (n : Nat) (lot : List Nat) (s : List (List Nat)) (hl : lot.length ≤ 100) (hs : s.length ≤ 100) : callN P (n + 1) 9 [.fz (tup lot), .fz (sidesL s)] = .ok false (.bl (s.all fun z => lot.any fun x => decide (x ∈ z))) [] := by
  have e : ev ⟨callN P n, P.glob, P.rep⟩ (.lc (.nm 2 false) (.itP (.var 1)) (.bl true) (.bi .any (.cons (.lc (.nm 3 false) (.itP (.var 0)) (.bl true) (.cmp (.var 3) (.link .isin (.var 2) .nil)) [3]) .nil)) [2]) [some (.fz (tup lot)), some (.fz (sidesL s)), none, none]
      = .ok (.fr (.lst (s.map fun z => .bl (lot.any fun x => decide (x ∈ z))))) [some (.fz (tup lot)), some (.fz (sidesL s)), none, none] := by
    rw [lc_is (T := fun x => .lst (nats x)) (b := fun _ => true) (f := fun z => .bl (lot.any fun x => decide (x ∈ z))) (l := s) (by simp [sidesL, v_nil, v_cons, v_star, v_bor, v_lend, v_var, v_give, v_int, v_bl, v_non, v_str, v_glob, v_bin, v_neg, v_not, v_cmp, v_cmp2, v_and, v_or, v_ite, v_tup, v_lst, v_ix, v_sl, v_call, v_callK, v_bi, v_divmod, v_mt, v_app, v_isi, v_itP, v_itE, v_rev, v_dnil, v_dkv, v_dun, v_dds, w_skip, w_seq, w_ex, w_asg, w_par, w_ite, w_ret, w_retN, Ev.R.c1, Ev.R.ca, Ev.R.cl, Ev.R.co, Ev.R.ci, Ev.R.cf, Ev.R.fl, slot, rd, Ev.Slot.d, tests, truD, tk, tkAll, rdAll, tkFr, tkS1, tkSl, parG, ofOpt, asgT, Ev.T.count, asgG, Ev.asgG.asgGs, putS, runCall, lendOk, mems, argsOf, argOf, outsTo, outsOf, finish, walkOf, itemsD, needLock, lock, Ev.F.unlock, unlock, hide, testOf, permD, binD, intD, addD, itemD, setD, biD, b_lenL, b_lenT, nats_length, bInt, bList, b_tupL, b_tupT, b_sortD, b_sortN, isiD, c_lt, c_le, c_gt, c_ge, c_eqI, c_neI, c_inL, c_inT, c_ninL, c_ninT, c_inD, len_dictN, List.map_cons, List.map_nil, List.length_cons, List.length_nil, List.replicate_succ, List.replicate_zero, List.cons_append, List.nil_append, List.append_nil, List.getElem?_cons_zero, List.getElem?_cons_succ, List.set_cons_zero, List.set_cons_succ, Option.map_some, Option.map_none, Option.bind_some, Option.any_some]) (fun z hz => ⟨[some (.fz (tup lot)), some (.fz (sidesL s)), some (.fz (.lst (nats z))), none], rfl, rfl, by simp [Is, v_nil, v_cons, v_star, v_bor, v_lend, v_var, v_give, v_int, v_bl, v_non, v_str, v_glob, v_bin, v_neg, v_not, v_cmp, v_cmp2, v_and, v_or, v_ite, v_tup, v_lst, v_ix, v_sl, v_call, v_callK, v_bi, v_divmod, v_mt, v_app, v_isi, v_itP, v_itE, v_rev, v_dnil, v_dkv, v_dun, v_dds, w_skip, w_seq, w_ex, w_asg, w_par, w_ite, w_ret, w_retN, Ev.R.c1, Ev.R.ca, Ev.R.cl, Ev.R.co, Ev.R.ci, Ev.R.cf, Ev.R.fl, slot, rd, Ev.Slot.d, tests, truD, tk, tkAll, rdAll, tkFr, tkS1, tkSl, parG, ofOpt, asgT, Ev.T.count, asgG, Ev.asgG.asgGs, putS, runCall, lendOk, mems, argsOf, argOf, outsTo, outsOf, finish, walkOf, itemsD, needLock, lock, Ev.F.unlock, unlock, hide, testOf, permD, binD, intD, addD, itemD, setD, biD, b_lenL, b_lenT, nats_length, bInt, bList, b_tupL, b_tupT, b_sortD, b_sortN, isiD, c_lt, c_le, c_gt, c_ge, c_eqI, c_neI, c_inL, c_inT, c_ninL, c_ninT, c_inD, len_dictN, List.map_cons, List.map_nil, List.length_cons, List.length_nil, List.replicate_succ, List.replicate_zero, List.cons_append, List.nil_append, List.append_nil, List.getElem?_cons_zero, List.getElem?_cons_succ, List.set_cons_zero, List.set_cons_succ, Option.map_some, Option.map_none, Option.bind_some, Option.any_some], fun _ => ?_⟩) (by unfold LIM; omega)]
    · simp
    · have e1 : ev ⟨callN P n, P.glob, P.rep⟩ (.lc (.nm 3 false) (.itP (.var 0)) (.bl true) (.cmp (.var 3) (.link .isin (.var 2) .nil)) [3]) [some (.fz (tup lot)), some (.fz (sidesL s)), some (.fz (.lst (nats z))), none]
          = .ok (.fr (.lst (lot.map fun x => .bl (decide (x ∈ z))))) [some (.fz (tup lot)), some (.fz (sidesL s)), some (.fz (.lst (nats z))), none] := by
        rw [lc_is (T := fun k : Nat => D.int (k : Int)) (b := fun _ => true) (f := fun x => .bl (decide (x ∈ z))) (l := lot) (by simp [tup, v_nil, v_cons, v_star, v_bor, v_lend, v_var, v_give, v_int, v_bl, v_non, v_str, v_glob, v_bin, v_neg, v_not, v_cmp, v_cmp2, v_and, v_or, v_ite, v_tup, v_lst, v_ix, v_sl, v_call, v_callK, v_bi, v_divmod, v_mt, v_app, v_isi, v_itP, v_itE, v_rev, v_dnil, v_dkv, v_dun, v_dds, w_skip, w_seq, w_ex, w_asg, w_par, w_ite, w_ret, w_retN, Ev.R.c1, Ev.R.ca, Ev.R.cl, Ev.R.co, Ev.R.ci, Ev.R.cf, Ev.R.fl, slot, rd, Ev.Slot.d, tests, truD, tk, tkAll, rdAll, tkFr, tkS1, tkSl, parG, ofOpt, asgT, Ev.T.count, asgG, Ev.asgG.asgGs, putS, runCall, lendOk, mems, argsOf, argOf, outsTo, outsOf, finish, walkOf, itemsD, needLock, lock, Ev.F.unlock, unlock, hide, testOf, permD, binD, intD, addD, itemD, setD, biD, b_lenL, b_lenT, nats_length, bInt, bList, b_tupL, b_tupT, b_sortD, b_sortN, isiD, c_lt, c_le, c_gt, c_ge, c_eqI, c_neI, c_inL, c_inT, c_ninL, c_ninT, c_inD, len_dictN, List.map_cons, List.map_nil, List.length_cons, List.length_nil, List.replicate_succ, List.replicate_zero, List.cons_append, List.nil_append, List.append_nil, List.getElem?_cons_zero, List.getElem?_cons_succ, List.set_cons_zero, List.set_cons_succ, Option.map_some, Option.map_none, Option.bind_some, Option.any_some, nats]) (fun x hx => ⟨[some (.fz (tup lot)), some (.fz (sidesL s)), some (.fz (.lst (nats z))), some (.fz (.int (x : Int)))], rfl, rfl, by simp [Is, v_nil, v_cons, v_star, v_bor, v_lend, v_var, v_give, v_int, v_bl, v_non, v_str, v_glob, v_bin, v_neg, v_not, v_cmp, v_cmp2, v_and, v_or, v_ite, v_tup, v_lst, v_ix, v_sl, v_call, v_callK, v_bi, v_divmod, v_mt, v_app, v_isi, v_itP, v_itE, v_rev, v_dnil, v_dkv, v_dun, v_dds, w_skip, w_seq, w_ex, w_asg, w_par, w_ite, w_ret, w_retN, Ev.R.c1, Ev.R.ca, Ev.R.cl, Ev.R.co, Ev.R.ci, Ev.R.cf, Ev.R.fl, slot, rd, Ev.Slot.d, tests, truD, tk, tkAll, rdAll, tkFr, tkS1, tkSl, parG, ofOpt, asgT, Ev.T.count, asgG, Ev.asgG.asgGs, putS, runCall, lendOk, mems, argsOf, argOf, outsTo, outsOf, finish, walkOf, itemsD, needLock, lock, Ev.F.unlock, unlock, hide, testOf, permD, binD, intD, addD, itemD, setD, biD, b_lenL, b_lenT, nats_length, bInt, bList, b_tupL, b_tupT, b_sortD, b_sortN, isiD, c_lt, c_le, c_gt, c_ge, c_eqI, c_neI, c_inL, c_inT, c_ninL, c_ninT, c_inD, len_dictN, List.map_cons, List.map_nil, List.length_cons, List.length_nil, List.replicate_succ, List.replicate_zero, List.cons_append, List.nil_append, List.append_nil, List.getElem?_cons_zero, List.getElem?_cons_succ, List.set_cons_zero, List.set_cons_succ, Option.map_some, Option.map_none, Option.bind_some, Option.any_some], fun _ => by simp [Is, v_nil, v_cons, v_star, v_bor, v_lend, v_var, v_give, v_int, v_bl, v_non, v_str, v_glob, v_bin, v_neg, v_not, v_cmp, v_cmp2, v_and, v_or, v_ite, v_tup, v_lst, v_ix, v_sl, v_call, v_callK, v_bi, v_divmod, v_mt, v_app, v_isi, v_itP, v_itE, v_rev, v_dnil, v_dkv, v_dun, v_dds, w_skip, w_seq, w_ex, w_asg, w_par, w_ite, w_ret, w_retN, Ev.R.c1, Ev.R.ca, Ev.R.cl, Ev.R.co, Ev.R.ci, Ev.R.cf, Ev.R.fl, slot, rd, Ev.Slot.d, tests, truD, tk, tkAll, rdAll, tkFr, tkS1, tkSl, parG, ofOpt, asgT, Ev.T.count, asgG, Ev.asgG.asgGs, putS, runCall, lendOk, mems, argsOf, argOf, outsTo, outsOf, finish, walkOf, itemsD, needLock, lock, Ev.F.unlock, unlock, hide, testOf, permD, binD, intD, addD, itemD, setD, biD, b_lenL, b_lenT, nats_length, bInt, bList, b_tupL, b_tupT, b_sortD, b_sortN, isiD, c_lt, c_le, c_gt, c_ge, c_eqI, c_neI, c_inL, c_inT, c_ninL, c_ninT, c_inD, len_dictN, List.map_cons, List.map_nil, List.length_cons, List.length_nil, List.replicate_succ, List.replicate_zero, List.cons_append, List.nil_append, List.append_nil, List.getElem?_cons_zero, List.getElem?_cons_succ, List.set_cons_zero, List.set_cons_succ, Option.map_some, Option.map_none, Option.bind_some, Option.any_some]⟩) (by unfold LIM; omega)]
        simp
      simp [Is, v_nil, v_cons, v_star, v_bor, v_lend, v_var, v_give, v_int, v_bl, v_non, v_str, v_glob, v_bin, v_neg, v_not, v_cmp, v_cmp2, v_and, v_or, v_ite, v_tup, v_lst, v_ix, v_sl, v_call, v_callK, v_bi, v_divmod, v_mt, v_app, v_isi, v_itP, v_itE, v_rev, v_dnil, v_dkv, v_dun, v_dds, w_skip, w_seq, w_ex, w_asg, w_par, w_ite, w_ret, w_retN, Ev.R.c1, Ev.R.ca, Ev.R.cl, Ev.R.co, Ev.R.ci, Ev.R.cf, Ev.R.fl, slot, rd, Ev.Slot.d, tests, truD, tk, tkAll, rdAll, tkFr, tkS1, tkSl, parG, ofOpt, asgT, Ev.T.count, asgG, Ev.asgG.asgGs, putS, runCall, lendOk, mems, argsOf, argOf, outsTo, outsOf, finish, walkOf, itemsD, needLock, lock, Ev.F.unlock, unlock, hide, testOf, permD, binD, intD, addD, itemD, setD, biD, b_lenL, b_lenT, nats_length, bInt, bList, b_tupL, b_tupT, b_sortD, b_sortN, isiD, c_lt, c_le, c_gt, c_ge, c_eqI, c_neI, c_inL, c_inT, c_ninL, c_ninT, c_inD, len_dictN, List.map_cons, List.map_nil, List.length_cons, List.length_nil, List.replicate_succ, List.replicate_zero, List.cons_append, List.nil_append, List.append_nil, List.getElem?_cons_zero, List.getElem?_cons_succ, List.set_cons_zero, List.set_cons_succ, Option.map_some, Option.map_none, Option.bind_some, Option.any_some, e1, any_map]
  exact call_fz (ρ' := [some (.fz (tup lot)), some (.fz (sidesL s)), none, none]) fn_has_all rfl (by simp [f_has_all, v_nil, v_cons, v_star, v_bor, v_lend, v_var, v_give, v_int, v_bl, v_non, v_str, v_glob, v_bin, v_neg, v_not, v_cmp, v_cmp2, v_and, v_or, v_ite, v_tup, v_lst, v_ix, v_sl, v_call, v_callK, v_bi, v_divmod, v_mt, v_app, v_isi, v_itP, v_itE, v_rev, v_dnil, v_dkv, v_dun, v_dds, w_skip, w_seq, w_ex, w_asg, w_par, w_ite, w_ret, w_retN, Ev.R.c1, Ev.R.ca, Ev.R.cl, Ev.R.co, Ev.R.ci, Ev.R.cf, Ev.R.fl, slot, rd, Ev.Slot.d, tests, truD, tk, tkAll, rdAll, tkFr, tkS1, tkSl, parG, ofOpt, asgT, Ev.T.count, asgG, Ev.asgG.asgGs, putS, runCall, lendOk, mems, argsOf, argOf, outsTo, outsOf, finish, walkOf, itemsD, needLock, lock, Ev.F.unlock, unlock, hide, testOf, permD, binD, intD, addD, itemD, setD, biD, b_lenL, b_lenT, nats_length, bInt, bList, b_tupL, b_tupT, b_sortD, b_sortN, isiD, c_lt, c_le, c_gt, c_ge, c_eqI, c_neI, c_inL, c_inT, c_ninL, c_ninT, c_inD, len_dictN, List.map_cons, List.map_nil, List.length_cons, List.length_nil, List.replicate_succ, List.replicate_zero, List.cons_append, List.nil_append, List.append_nil, List.getElem?_cons_zero, List.getElem?_cons_succ, List.set_cons_zero, List.set_cons_succ, Option.map_some, Option.map_none, Option.bind_some, Option.any_some, e, all_map]) (by simp [outsOf])
theorem piecesIn_length (N : Nat) (nb : List (List Nat)) (lot : List Nat) : (piecesIn N nb lot).length = (roomsIn N nb lot).length := (sortBy_perm _ _).length_eq
theorem piecesIn_mem {N : Nat} {nb : List (List Nat)} {lot r : List Nat} : r ∈ piecesIn N nb lot ↔ ∃ x ∈ lot, roomOf N (pairsIn nb lot) x = r := by
  unfold piecesIn roomsIn
  rw [(sortBy_perm _ _).mem_iff, addAll_mem, List.mem_map]
  simp
end K75

/-! ### is_whole_piece -/
namespace K75
open Ev
variable {P : Prog} [Has P]
theorem fn_is_whole_piece : P.fns[10]? = some f_is_whole_piece := by rw [Has.fns]; rfl
theorem wholePiece_ok (n : Nat) (nb s : List (List Nat)) (lot : List Nat) (hl : lot.length ≤ 20) (hb : ∀ x ∈ lot, x < nb.length) (hn : ∀ x ∈ nb, x.length ≤ 20) (hs : s.length ≤ 100) (sy : SymB nb = true) (nd : lot.Nodup) :
    callN P (n + 4) 10 [.fz (nbL nb), .fz (tup lot), .fz (sidesL s)] = .ok false (.bl (hangB nb lot && s.all fun z => lot.any fun x => decide (x ∈ z))) [] := by
  have p := pieces_ok (P := P) n nb.length nb lot hl hb hn hb
  have h := has_ok (P := P) (n + 2) lot s (by omega) hs
  have q := rooms_hang sy hb nd hb
  have e : ((tups (piecesIn nb.length nb lot)).length : Int) = ((roomsIn nb.length nb lot).length : Int) := by rw [tups_length, piecesIn_length]
  have e1 : decide (((roomsIn nb.length nb lot).length : Int) = 1) = hangB nb lot := by
    rw [← q, Bool.eq_iff_iff, decide_eq_true_eq, decide_eq_true_eq]
    omega
  refine call_fz (ρ' := [some (.fz (nbL nb)), some (.fz (tup lot)), some (.fz (sidesL s))]) fn_is_whole_piece rfl ?_ (by simp [outsOf])
  cases c : hangB nb lot with
  | true =>
    rw [c] at e1
    simp [f_is_whole_piece, v_nil, v_cons, v_star, v_bor, v_lend, v_var, v_give, v_int, v_bl, v_non, v_str, v_glob, v_bin, v_neg, v_not, v_cmp, v_cmp2, v_and, v_or, v_ite, v_tup, v_lst, v_ix, v_sl, v_call, v_callK, v_bi, v_divmod, v_mt, v_app, v_isi, v_itP, v_itE, v_rev, v_dnil, v_dkv, v_dun, v_dds, w_skip, w_seq, w_ex, w_asg, w_par, w_ite, w_ret, w_retN, Ev.R.c1, Ev.R.ca, Ev.R.cl, Ev.R.co, Ev.R.ci, Ev.R.cf, Ev.R.fl, slot, rd, Ev.Slot.d, tests, truD, tk, tkAll, rdAll, tkFr, tkS1, tkSl, parG, ofOpt, asgT, Ev.T.count, asgG, Ev.asgG.asgGs, putS, runCall, lendOk, mems, argsOf, argOf, outsTo, outsOf, finish, walkOf, itemsD, needLock, lock, Ev.F.unlock, unlock, hide, testOf, permD, binD, intD, addD, itemD, setD, biD, b_lenL, b_lenT, nats_length, bInt, bList, b_tupL, b_tupT, b_sortD, b_sortN, isiD, c_lt, c_le, c_gt, c_ge, c_eqI, c_neI, c_inL, c_inT, c_ninL, c_ninT, c_inD, len_dictN, List.map_cons, List.map_nil, List.length_cons, List.length_nil, List.replicate_succ, List.replicate_zero, List.cons_append, List.nil_append, List.append_nil, List.getElem?_cons_zero, List.getElem?_cons_succ, List.set_cons_zero, List.set_cons_succ, Option.map_some, Option.map_none, Option.bind_some, Option.any_some, p, h, e, e1]
  | false =>
    rw [c] at e1
    simp [f_is_whole_piece, v_nil, v_cons, v_star, v_bor, v_lend, v_var, v_give, v_int, v_bl, v_non, v_str, v_glob, v_bin, v_neg, v_not, v_cmp, v_cmp2, v_and, v_or, v_ite, v_tup, v_lst, v_ix, v_sl, v_call, v_callK, v_bi, v_divmod, v_mt, v_app, v_isi, v_itP, v_itE, v_rev, v_dnil, v_dkv, v_dun, v_dds, w_skip, w_seq, w_ex, w_asg, w_par, w_ite, w_ret, w_retN, Ev.R.c1, Ev.R.ca, Ev.R.cl, Ev.R.co, Ev.R.ci, Ev.R.cf, Ev.R.fl, slot, rd, Ev.Slot.d, tests, truD, tk, tkAll, rdAll, tkFr, tkS1, tkSl, parG, ofOpt, asgT, Ev.T.count, asgG, Ev.asgG.asgGs, putS, runCall, lendOk, mems, argsOf, argOf, outsTo, outsOf, finish, walkOf, itemsD, needLock, lock, Ev.F.unlock, unlock, hide, testOf, permD, binD, intD, addD, itemD, setD, biD, b_lenL, b_lenT, nats_length, bInt, bList, b_tupL, b_tupT, b_sortD, b_sortN, isiD, c_lt, c_le, c_gt, c_ge, c_eqI, c_neI, c_inL, c_inT, c_ninL, c_ninT, c_inD, len_dictN, List.map_cons, List.map_nil, List.length_cons, List.length_nil, List.replicate_succ, List.replicate_zero, List.cons_append, List.nil_append, List.append_nil, List.getElem?_cons_zero, List.getElem?_cons_succ, List.set_cons_zero, List.set_cons_succ, Option.map_some, Option.map_none, Option.bind_some, Option.any_some, p, h, e, e1]
end K75
end

section
set_option Elab.async false
set_option linter.all false
set_option maxRecDepth 1000000
set_option maxHeartbeats 0
/-! ### tables of three-sided boards (printed by tab.py) -/
namespace K75
open Ev
def nbT : Nat → List (List Nat)
  | 1 => [[]]
  | 2 => [[1, 2], [0, 2], [0, 1]]
  | 3 => [[1, 2], [0, 2, 3, 4], [0, 1, 4, 5], [1, 4], [1, 2, 3, 5], [2, 4]]
  | 4 => [[1, 2], [0, 2, 3, 4], [0, 1, 4, 5], [1, 4, 6, 7], [1, 2, 3, 5, 7, 8], [2, 4, 8, 9], [3, 7], [3, 4, 6, 8], [4, 5, 7, 9], [5, 8]]
  | _ => []
def sdT : Nat → List (List Nat)
  | 1 => [[0], [0], [0]]
  | 2 => [[0, 1], [0, 2], [1, 2]]
  | 3 => [[0, 1, 3], [0, 2, 5], [3, 4, 5]]
  | 4 => [[0, 1, 3, 6], [0, 2, 5, 9], [6, 7, 8, 9]]
  | _ => []
def plT : Nat → List (Nat × Nat)
  | 1 => [(0, 0)]
  | 2 => [(0, 0), (1, 0), (1, 1)]
  | 3 => [(0, 0), (1, 0), (1, 1), (2, 0), (2, 1), (2, 2)]
  | 4 => [(0, 0), (1, 0), (1, 1), (2, 0), (2, 1), (2, 2), (3, 0), (3, 1), (3, 2), (3, 3)]
  | _ => []
theorem allNear_1 (n : Nat) : callN prog (n + 4) 15 [.fz (.int 1)] = .ok false (nbL (nbT 1)) [] := by kernel_rfl
theorem sides_1 (n : Nat) : callN prog (n + 3) 16 [.fz (.int 1)] = .ok false (sidesL (sdT 1)) [] := by kernel_rfl
theorem places_1 (n : Nat) : callN prog (n + 1) 26 [.fz (.int 1)] = .ok false (prs (plT 1)) [] := by kernel_rfl
theorem near_1_0 (n : Nat) : callN prog (n + 2) 27 [.fz (.int 1), .fz (.int 0)] = .ok false (tup []) [] := by kernel_rfl
theorem allNear_2 (n : Nat) : callN prog (n + 4) 15 [.fz (.int 2)] = .ok false (nbL (nbT 2)) [] := by kernel_rfl
theorem sides_2 (n : Nat) : callN prog (n + 3) 16 [.fz (.int 2)] = .ok false (sidesL (sdT 2)) [] := by kernel_rfl
theorem places_2 (n : Nat) : callN prog (n + 1) 26 [.fz (.int 2)] = .ok false (prs (plT 2)) [] := by kernel_rfl
theorem near_2_0 (n : Nat) : callN prog (n + 2) 27 [.fz (.int 2), .fz (.int 0)] = .ok false (tup [1, 2]) [] := by kernel_rfl
theorem near_2_1 (n : Nat) : callN prog (n + 2) 27 [.fz (.int 2), .fz (.int 1)] = .ok false (tup [0, 2]) [] := by kernel_rfl
theorem near_2_2 (n : Nat) : callN prog (n + 2) 27 [.fz (.int 2), .fz (.int 2)] = .ok false (tup [0, 1]) [] := by kernel_rfl
theorem allNear_3 (n : Nat) : callN prog (n + 4) 15 [.fz (.int 3)] = .ok false (nbL (nbT 3)) [] := by kernel_rfl
theorem sides_3 (n : Nat) : callN prog (n + 3) 16 [.fz (.int 3)] = .ok false (sidesL (sdT 3)) [] := by kernel_rfl
theorem places_3 (n : Nat) : callN prog (n + 1) 26 [.fz (.int 3)] = .ok false (prs (plT 3)) [] := by kernel_rfl
theorem near_3_0 (n : Nat) : callN prog (n + 2) 27 [.fz (.int 3), .fz (.int 0)] = .ok false (tup [1, 2]) [] := by kernel_rfl
theorem near_3_1 (n : Nat) : callN prog (n + 2) 27 [.fz (.int 3), .fz (.int 1)] = .ok false (tup [0, 2, 3, 4]) [] := by kernel_rfl
theorem near_3_2 (n : Nat) : callN prog (n + 2) 27 [.fz (.int 3), .fz (.int 2)] = .ok false (tup [0, 1, 4, 5]) [] := by kernel_rfl
theorem near_3_3 (n : Nat) : callN prog (n + 2) 27 [.fz (.int 3), .fz (.int 3)] = .ok false (tup [1, 4]) [] := by kernel_rfl
theorem near_3_4 (n : Nat) : callN prog (n + 2) 27 [.fz (.int 3), .fz (.int 4)] = .ok false (tup [1, 2, 3, 5]) [] := by kernel_rfl
theorem near_3_5 (n : Nat) : callN prog (n + 2) 27 [.fz (.int 3), .fz (.int 5)] = .ok false (tup [2, 4]) [] := by kernel_rfl
theorem allNear_4 (n : Nat) : callN prog (n + 4) 15 [.fz (.int 4)] = .ok false (nbL (nbT 4)) [] := by kernel_rfl
theorem sides_4 (n : Nat) : callN prog (n + 3) 16 [.fz (.int 4)] = .ok false (sidesL (sdT 4)) [] := by kernel_rfl
theorem places_4 (n : Nat) : callN prog (n + 1) 26 [.fz (.int 4)] = .ok false (prs (plT 4)) [] := by kernel_rfl
theorem near_4_0 (n : Nat) : callN prog (n + 2) 27 [.fz (.int 4), .fz (.int 0)] = .ok false (tup [1, 2]) [] := by kernel_rfl
theorem near_4_1 (n : Nat) : callN prog (n + 2) 27 [.fz (.int 4), .fz (.int 1)] = .ok false (tup [0, 2, 3, 4]) [] := by kernel_rfl
theorem near_4_2 (n : Nat) : callN prog (n + 2) 27 [.fz (.int 4), .fz (.int 2)] = .ok false (tup [0, 1, 4, 5]) [] := by kernel_rfl
theorem near_4_3 (n : Nat) : callN prog (n + 2) 27 [.fz (.int 4), .fz (.int 3)] = .ok false (tup [1, 4, 6, 7]) [] := by kernel_rfl
theorem near_4_4 (n : Nat) : callN prog (n + 2) 27 [.fz (.int 4), .fz (.int 4)] = .ok false (tup [1, 2, 3, 5, 7, 8]) [] := by kernel_rfl
theorem near_4_5 (n : Nat) : callN prog (n + 2) 27 [.fz (.int 4), .fz (.int 5)] = .ok false (tup [2, 4, 8, 9]) [] := by kernel_rfl
theorem near_4_6 (n : Nat) : callN prog (n + 2) 27 [.fz (.int 4), .fz (.int 6)] = .ok false (tup [3, 7]) [] := by kernel_rfl
theorem near_4_7 (n : Nat) : callN prog (n + 2) 27 [.fz (.int 4), .fz (.int 7)] = .ok false (tup [3, 4, 6, 8]) [] := by kernel_rfl
theorem near_4_8 (n : Nat) : callN prog (n + 2) 27 [.fz (.int 4), .fz (.int 8)] = .ok false (tup [4, 5, 7, 9]) [] := by kernel_rfl
theorem near_4_9 (n : Nat) : callN prog (n + 2) 27 [.fz (.int 4), .fz (.int 9)] = .ok false (tup [5, 8]) [] := by kernel_rfl
theorem near_tab (n s c : Nat) (h : c < (nbT s).length) : callN prog (n + 2) 27 [.fz (.int (s : Int)), .fz (.int (c : Int))] = .ok false (tup (nbOf (nbT s) c)) [] := by
  match s, c, h with
  | 1, 0, _ => exact near_1_0 n
  | 1, c + 1, h => exact absurd h (by simp [nbT])
  | 2, 0, _ => exact near_2_0 n
  | 2, 1, _ => exact near_2_1 n
  | 2, 2, _ => exact near_2_2 n
  | 2, c + 3, h => exact absurd h (by simp [nbT])
  | 3, 0, _ => exact near_3_0 n
  | 3, 1, _ => exact near_3_1 n
  | 3, 2, _ => exact near_3_2 n
  | 3, 3, _ => exact near_3_3 n
  | 3, 4, _ => exact near_3_4 n
  | 3, 5, _ => exact near_3_5 n
  | 3, c + 6, h => exact absurd h (by simp [nbT])
  | 4, 0, _ => exact near_4_0 n
  | 4, 1, _ => exact near_4_1 n
  | 4, 2, _ => exact near_4_2 n
  | 4, 3, _ => exact near_4_3 n
  | 4, 4, _ => exact near_4_4 n
  | 4, 5, _ => exact near_4_5 n
  | 4, 6, _ => exact near_4_6 n
  | 4, 7, _ => exact near_4_7 n
  | 4, 8, _ => exact near_4_8 n
  | 4, 9, _ => exact near_4_9 n
  | 4, c + 10, h => exact absurd h (by simp [nbT])
  | 0, c, h => exact absurd h (by simp [nbT])
  | s + 5, c, h => exact absurd h (by simp [nbT])
theorem cellsBy_1 (n : Nat) : callN prog (n + 1) 11 [.fz (.int 1)] = .ok false (.int ((plT 1).length : Nat)) [] := by kernel_rfl
theorem besideBy_1_0 (n : Nat) : callN prog (n + 3) 14 [.fz (.int 1), .fz (.int 0)] = .ok false (tup []) [] := by kernel_rfl
theorem cellsBy_2 (n : Nat) : callN prog (n + 1) 11 [.fz (.int 2)] = .ok false (.int ((plT 2).length : Nat)) [] := by kernel_rfl
theorem besideBy_2_0 (n : Nat) : callN prog (n + 3) 14 [.fz (.int 2), .fz (.int 0)] = .ok false (tup [1, 2]) [] := by kernel_rfl
theorem besideBy_2_1 (n : Nat) : callN prog (n + 3) 14 [.fz (.int 2), .fz (.int 1)] = .ok false (tup [0, 2]) [] := by kernel_rfl
theorem besideBy_2_2 (n : Nat) : callN prog (n + 3) 14 [.fz (.int 2), .fz (.int 2)] = .ok false (tup [0, 1]) [] := by kernel_rfl
theorem cellsBy_3 (n : Nat) : callN prog (n + 1) 11 [.fz (.int 3)] = .ok false (.int ((plT 3).length : Nat)) [] := by kernel_rfl
theorem besideBy_3_0 (n : Nat) : callN prog (n + 3) 14 [.fz (.int 3), .fz (.int 0)] = .ok false (tup [1, 2]) [] := by kernel_rfl
theorem besideBy_3_1 (n : Nat) : callN prog (n + 3) 14 [.fz (.int 3), .fz (.int 1)] = .ok false (tup [0, 2, 3, 4]) [] := by kernel_rfl
theorem besideBy_3_2 (n : Nat) : callN prog (n + 3) 14 [.fz (.int 3), .fz (.int 2)] = .ok false (tup [0, 1, 4, 5]) [] := by kernel_rfl
theorem besideBy_3_3 (n : Nat) : callN prog (n + 3) 14 [.fz (.int 3), .fz (.int 3)] = .ok false (tup [1, 4]) [] := by kernel_rfl
theorem besideBy_3_4 (n : Nat) : callN prog (n + 3) 14 [.fz (.int 3), .fz (.int 4)] = .ok false (tup [1, 2, 3, 5]) [] := by kernel_rfl
theorem besideBy_3_5 (n : Nat) : callN prog (n + 3) 14 [.fz (.int 3), .fz (.int 5)] = .ok false (tup [2, 4]) [] := by kernel_rfl
theorem cellsBy_4 (n : Nat) : callN prog (n + 1) 11 [.fz (.int 4)] = .ok false (.int ((plT 4).length : Nat)) [] := by kernel_rfl
theorem besideBy_4_0 (n : Nat) : callN prog (n + 3) 14 [.fz (.int 4), .fz (.int 0)] = .ok false (tup [1, 2]) [] := by kernel_rfl
theorem besideBy_4_1 (n : Nat) : callN prog (n + 3) 14 [.fz (.int 4), .fz (.int 1)] = .ok false (tup [0, 2, 3, 4]) [] := by kernel_rfl
theorem besideBy_4_2 (n : Nat) : callN prog (n + 3) 14 [.fz (.int 4), .fz (.int 2)] = .ok false (tup [0, 1, 4, 5]) [] := by kernel_rfl
theorem besideBy_4_3 (n : Nat) : callN prog (n + 3) 14 [.fz (.int 4), .fz (.int 3)] = .ok false (tup [1, 4, 6, 7]) [] := by kernel_rfl
theorem besideBy_4_4 (n : Nat) : callN prog (n + 3) 14 [.fz (.int 4), .fz (.int 4)] = .ok false (tup [1, 2, 3, 5, 7, 8]) [] := by kernel_rfl
theorem besideBy_4_5 (n : Nat) : callN prog (n + 3) 14 [.fz (.int 4), .fz (.int 5)] = .ok false (tup [2, 4, 8, 9]) [] := by kernel_rfl
theorem besideBy_4_6 (n : Nat) : callN prog (n + 3) 14 [.fz (.int 4), .fz (.int 6)] = .ok false (tup [3, 7]) [] := by kernel_rfl
theorem besideBy_4_7 (n : Nat) : callN prog (n + 3) 14 [.fz (.int 4), .fz (.int 7)] = .ok false (tup [3, 4, 6, 8]) [] := by kernel_rfl
theorem besideBy_4_8 (n : Nat) : callN prog (n + 3) 14 [.fz (.int 4), .fz (.int 8)] = .ok false (tup [4, 5, 7, 9]) [] := by kernel_rfl
theorem besideBy_4_9 (n : Nat) : callN prog (n + 3) 14 [.fz (.int 4), .fz (.int 9)] = .ok false (tup [5, 8]) [] := by kernel_rfl
theorem besideBy_tab (n s c : Nat) (h : c < (nbT s).length) : callN prog (n + 3) 14 [.fz (.int (s : Int)), .fz (.int (c : Int))] = .ok false (tup (nbOf (nbT s) c)) [] := by
  match s, c, h with
  | 1, 0, _ => exact besideBy_1_0 n
  | 1, c + 1, h => exact absurd h (by simp [nbT])
  | 2, 0, _ => exact besideBy_2_0 n
  | 2, 1, _ => exact besideBy_2_1 n
  | 2, 2, _ => exact besideBy_2_2 n
  | 2, c + 3, h => exact absurd h (by simp [nbT])
  | 3, 0, _ => exact besideBy_3_0 n
  | 3, 1, _ => exact besideBy_3_1 n
  | 3, 2, _ => exact besideBy_3_2 n
  | 3, 3, _ => exact besideBy_3_3 n
  | 3, 4, _ => exact besideBy_3_4 n
  | 3, 5, _ => exact besideBy_3_5 n
  | 3, c + 6, h => exact absurd h (by simp [nbT])
  | 4, 0, _ => exact besideBy_4_0 n
  | 4, 1, _ => exact besideBy_4_1 n
  | 4, 2, _ => exact besideBy_4_2 n
  | 4, 3, _ => exact besideBy_4_3 n
  | 4, 4, _ => exact besideBy_4_4 n
  | 4, 5, _ => exact besideBy_4_5 n
  | 4, 6, _ => exact besideBy_4_6 n
  | 4, 7, _ => exact besideBy_4_7 n
  | 4, 8, _ => exact besideBy_4_8 n
  | 4, 9, _ => exact besideBy_4_9 n
  | 4, c + 10, h => exact absurd h (by simp [nbT])
  | 0, c, h => exact absurd h (by simp [nbT])
  | s + 5, c, h => exact absurd h (by simp [nbT])
theorem cellsBy_tab (n s : Nat) (h1 : 1 ≤ s) (h4 : s ≤ 4) : callN prog (n + 1) 11 [.fz (.int (s : Int))] = .ok false (.int ((plT s).length : Nat)) [] := by
  match s, h1, h4 with
  | 1, _, _ => exact cellsBy_1 n
  | 2, _, _ => exact cellsBy_2 n
  | 3, _, _ => exact cellsBy_3 n
  | 4, _, _ => exact cellsBy_4 n
theorem allNear_tab (n s : Nat) (h1 : 1 ≤ s) (h4 : s ≤ 4) : callN prog (n + 4) 15 [.fz (.int (s : Int))] = .ok false (nbL (nbT s)) [] := by
  match s, h1, h4 with
  | 1, _, _ => exact allNear_1 n
  | 2, _, _ => exact allNear_2 n
  | 3, _, _ => exact allNear_3 n
  | 4, _, _ => exact allNear_4 n
theorem sides_tab (n s : Nat) (h1 : 1 ≤ s) (h4 : s ≤ 4) : callN prog (n + 3) 16 [.fz (.int (s : Int))] = .ok false (sidesL (sdT s)) [] := by
  match s, h1, h4 with
  | 1, _, _ => exact sides_1 n
  | 2, _, _ => exact sides_2 n
  | 3, _, _ => exact sides_3 n
  | 4, _, _ => exact sides_4 n
theorem places_tab (n s : Nat) (h1 : 1 ≤ s) (h4 : s ≤ 4) : callN prog (n + 1) 26 [.fz (.int (s : Int))] = .ok false (prs (plT s)) [] := by
  match s, h1, h4 with
  | 1, _, _ => exact places_1 n
  | 2, _, _ => exact places_2 n
  | 3, _, _ => exact places_3 n
  | 4, _, _ => exact places_4 n
/-- what the tables tell -/
class Tab (P : Prog) : Prop where
  near : ∀ n s c : Nat, c < (nbT s).length → callN P (n + 2) 27 [.fz (.int (s : Int)), .fz (.int (c : Int))] = .ok false (tup (nbOf (nbT s) c)) []
  by_ : ∀ n s c : Nat, c < (nbT s).length → callN P (n + 3) 14 [.fz (.int (s : Int)), .fz (.int (c : Int))] = .ok false (tup (nbOf (nbT s) c)) []
  all : ∀ n s : Nat, 1 ≤ s → s ≤ 4 → callN P (n + 4) 15 [.fz (.int (s : Int))] = .ok false (nbL (nbT s)) []
  sides : ∀ n s : Nat, 1 ≤ s → s ≤ 4 → callN P (n + 3) 16 [.fz (.int (s : Int))] = .ok false (sidesL (sdT s)) []
  places : ∀ n s : Nat, 1 ≤ s → s ≤ 4 → callN P (n + 1) 26 [.fz (.int (s : Int))] = .ok false (prs (plT s)) []
  cells : ∀ n s : Nat, 1 ≤ s → s ≤ 4 → callN P (n + 1) 11 [.fz (.int (s : Int))] = .ok false (.int ((plT s).length : Nat)) []
instance : Tab prog := ⟨near_tab, besideBy_tab, allNear_tab, sides_tab, places_tab, cellsBy_tab⟩
theorem nb_len {s : Nat} (h1 : 1 ≤ s) (h4 : s ≤ 4) : (nbT s).length = (plT s).length ∧ (plT s).length ≤ 10 ∧ 0 < (plT s).length ∧ SymB (nbT s) = true ∧ (sdT s).length = 3 ∧ ((nbT s).all fun l => decide (l.length ≤ 6)) = true := by
  match s, h1, h4 with
  | 1, _, _ => decide
  | 2, _, _ => decide
  | 3, _, _ => decide
  | 4, _, _ => decide
end K75
end

section
set_option Elab.async false
set_option linter.all false
set_option maxRecDepth 1000000
set_option maxHeartbeats 0
/-! ### draws -/
namespace K75
open Ev
variable {P : Prog} [Has P]
def pool (a b c : Int) : D := .lst [.int a, .int b, .int c]
theorem fn_law_draw : P.fns[24]? = some f__law_draw := by rw [Has.fns]; rfl
theorem draw_ok (n : Nat) (a b c : Int) (hb : 0 ≤ b) (m : Nat) (hm : 0 < m) (hm2 : m < 1000000) : ∃ (r : Nat) (a' b' c' : Int), r < m ∧ 0 ≤ b' ∧
    callN P (n + 1) 24 [.ln (pool a b c), .fz (.int (m : Int))] = .ok false (.int (r : Int)) [pool a' b' c'] := by
  have hs : ∀ z : Int, (-18446744073709551616 < z % 20011 + 30011) ∧ (z % 20011 + 30011 < 18446744073709551616) := fun z => by omega
  have m1 : (0 : Int) < (m : Int) := by omega
  have m2 : (m : Int) < 1073741824 := by omega
  have fit : ∀ z : Int, ∃ r : Nat, r < m ∧ z % (m : Int) = (r : Int) := fun z => by
    have h1 := Int.emod_nonneg z (show (m : Int) ≠ 0 by omega)
    have h2 := Int.emod_lt_of_pos z m1
    exact ⟨(z % (m : Int)).toNat, by omega, by omega⟩
  by_cases h : 0 < b
  · obtain ⟨r, hr, er⟩ := fit b
    refine ⟨r, a, b / m, c, hr, Int.ediv_nonneg hb (by omega), ?_⟩
    rw [← er, call_def fn_law_draw rfl]
    simp [f__law_draw, v_nil, v_cons, v_star, v_bor, v_lend, v_var, v_give, v_int, v_bl, v_non, v_str, v_glob, v_bin, v_neg, v_not, v_cmp, v_cmp2, v_and, v_or, v_ite, v_tup, v_lst, v_ix, v_sl, v_call, v_callK, v_bi, v_divmod, v_mt, v_app, v_isi, v_itP, v_itE, v_rev, v_dnil, v_dkv, v_dun, v_dds, w_skip, w_seq, w_ex, w_asg, w_par, w_ite, w_ret, w_retN, Ev.R.c1, Ev.R.ca, Ev.R.cl, Ev.R.co, Ev.R.ci, Ev.R.cf, Ev.R.fl, slot, rd, Ev.Slot.d, tests, truD, tk, tkAll, rdAll, tkFr, tkS1, tkSl, parG, ofOpt, asgT, Ev.T.count, asgG, Ev.asgG.asgGs, putS, runCall, lendOk, mems, argsOf, argOf, outsTo, outsOf, finish, walkOf, itemsD, needLock, lock, Ev.F.unlock, unlock, hide, testOf, permD, binD, intD, addD, itemD, setD, biD, b_lenL, b_lenT, nats_length, bInt, bList, b_tupL, b_tupT, b_sortD, b_sortN, isiD, c_lt, c_le, c_gt, c_ge, c_eqI, c_neI, c_inL, c_inT, c_ninL, c_ninT, c_inD, len_dictN, List.map_cons, List.map_nil, List.length_cons, List.length_nil, List.replicate_succ, List.replicate_zero, List.cons_append, List.nil_append, List.append_nil, List.getElem?_cons_zero, List.getElem?_cons_succ, List.set_cons_zero, List.set_cons_succ, Option.map_some, Option.map_none, Option.bind_some, Option.any_some, pool, h, hm, m2, ixD]
  · obtain rfl : b = 0 := by omega
    let a2 : Int := (a * (a % 20011 + 30011) + 70001 * (c + 1) + 9) % 2147483489
    obtain ⟨r, hr, er⟩ := fit (a2 / 128)
    refine ⟨r, a2, 0, c + 1, hr, by omega, ?_⟩
    rw [← er, call_def fn_law_draw rfl]
    simp [f__law_draw, v_nil, v_cons, v_star, v_bor, v_lend, v_var, v_give, v_int, v_bl, v_non, v_str, v_glob, v_bin, v_neg, v_not, v_cmp, v_cmp2, v_and, v_or, v_ite, v_tup, v_lst, v_ix, v_sl, v_call, v_callK, v_bi, v_divmod, v_mt, v_app, v_isi, v_itP, v_itE, v_rev, v_dnil, v_dkv, v_dun, v_dds, w_skip, w_seq, w_ex, w_asg, w_par, w_ite, w_ret, w_retN, Ev.R.c1, Ev.R.ca, Ev.R.cl, Ev.R.co, Ev.R.ci, Ev.R.cf, Ev.R.fl, slot, rd, Ev.Slot.d, tests, truD, tk, tkAll, rdAll, tkFr, tkS1, tkSl, parG, ofOpt, asgT, Ev.T.count, asgG, Ev.asgG.asgGs, putS, runCall, lendOk, mems, argsOf, argOf, outsTo, outsOf, finish, walkOf, itemsD, needLock, lock, Ev.F.unlock, unlock, hide, testOf, permD, binD, intD, addD, itemD, setD, biD, b_lenL, b_lenT, nats_length, bInt, bList, b_tupL, b_tupT, b_sortD, b_sortN, isiD, c_lt, c_le, c_gt, c_ge, c_eqI, c_neI, c_inL, c_inT, c_ninL, c_ninT, c_inD, len_dictN, List.map_cons, List.map_nil, List.length_cons, List.length_nil, List.replicate_succ, List.replicate_zero, List.cons_append, List.nil_append, List.append_nil, List.getElem?_cons_zero, List.getElem?_cons_succ, List.set_cons_zero, List.set_cons_succ, Option.map_some, Option.map_none, Option.bind_some, Option.any_some, pool, hm, m2, ixD, hs, small, P64, a2]
theorem back1 (v : Nat) (ρ0 ρ : Env) : back [v] ρ0 ρ = ρ.set v (slot ρ0 v) := rfl
end K75

/-! ### drawn lots -/
namespace K75
open Ev
variable {P : Prog} [Has P]
theorem sublist_up {l : List Nat} {n : Nat} (h : l.Sublist (List.range n)) : Up l ∧ ∀ x ∈ l, x < n :=
  ⟨List.Pairwise.sublist h (range_up n), fun x hx => List.mem_range.mp (h.mem hx)⟩
theorem fn_law_fill : P.fns[30]? = some f__law_fill := by rw [Has.fns]; rfl
theorem fill_ok (n : Nat) (a b c : Int) (hb : 0 ≤ b) (cells : Nat) (hc : cells ≤ 100) : ∃ (lot : List Nat) (a' b' c' : Int), lot.Sublist (List.range cells) ∧ 0 ≤ b' ∧
    callN P (n + 2) 30 [.ln (pool a b c), .fz (.int (cells : Int))] = .ok false (tup lot) [pool a' b' c'] := by
  obtain ⟨r, a1, b1, c1, hr, hb1, e1⟩ := draw_ok (P := P) n a b c hb 3 (by omega) (by omega)
  have hi : ev ⟨callN P (n + 1), P.glob, P.rep⟩ (.itR (.cons (.var 1) .nil)) [some (.ln (pool a1 b1 c1)), some (.fz (.int (cells : Int))), some (.fz (.int (1 + (r : Int)))), none] = .ok (.its ((List.range cells).map fun k : Nat => D.int (k : Int)) none) [some (.ln (pool a1 b1 c1)), some (.fz (.int (cells : Int))), some (.fz (.int (1 + (r : Int)))), none] :=
    itR1 (r := .sl 1) (by simp [v_nil, v_cons, v_star, v_bor, v_lend, v_var, v_give, v_int, v_bl, v_non, v_str, v_glob, v_bin, v_neg, v_not, v_cmp, v_cmp2, v_and, v_or, v_ite, v_tup, v_lst, v_ix, v_sl, v_call, v_callK, v_bi, v_divmod, v_mt, v_app, v_isi, v_itP, v_itE, v_rev, v_dnil, v_dkv, v_dun, v_dds, w_skip, w_seq, w_ex, w_asg, w_par, w_ite, w_ret, w_retN, Ev.R.c1, Ev.R.ca, Ev.R.cl, Ev.R.co, Ev.R.ci, Ev.R.cf, Ev.R.fl, slot, rd, Ev.Slot.d, tests, truD, tk, tkAll, rdAll, tkFr, tkS1, tkSl, parG, ofOpt, asgT, Ev.T.count, asgG, Ev.asgG.asgGs, putS, runCall, lendOk, mems, argsOf, argOf, outsTo, outsOf, finish, walkOf, itemsD, needLock, lock, Ev.F.unlock, unlock, hide, testOf, permD, binD, intD, addD, itemD, setD, biD, b_lenL, b_lenT, nats_length, bInt, bList, b_tupL, b_tupT, b_sortD, b_sortN, isiD, c_lt, c_le, c_gt, c_ge, c_eqI, c_neI, c_inL, c_inT, c_ninL, c_ninT, c_inD, len_dictN, List.map_cons, List.map_nil, List.length_cons, List.length_nil, List.replicate_succ, List.replicate_zero, List.cons_append, List.nil_append, List.append_nil, List.getElem?_cons_zero, List.getElem?_cons_succ, List.set_cons_zero, List.set_cons_succ, Option.map_some, Option.map_none, Option.bind_some, Option.any_some]) rfl (by omega)
  obtain ⟨lot, ρh, s, ⟨a2, b2, c2, hb2, rfl⟩, q⟩ := lc_some (T := fun k : Nat => D.int (k : Int)) (f := fun k : Nat => D.int (k : Int)) (l := List.range cells)
    (J := fun ρ => ∃ a b c, 0 ≤ b ∧ ρ = [some (.ln (pool a b c)), some (.fz (.int (cells : Int))), some (.fz (.int (1 + (r : Int)))), none])
    (p := ⟨callN P (n + 1), P.glob, P.rep⟩) (g := .nm 3 false) (it := .itR (.cons (.var 1) .nil)) (ifs := .cmp (.call 24 (.cons (.lend 0) (.cons (.int 4) .nil))) (.link .lt (.var 2) .nil)) (elt := .var 3) (vs := [3])
    (ρ := [some (.ln (pool a1 b1 c1)), some (.fz (.int (cells : Int))), some (.fz (.int (1 + (r : Int)))), none]) (ρ0 := [some (.ln (pool a1 b1 c1)), some (.fz (.int (cells : Int))), some (.fz (.int (1 + (r : Int)))), none])
    hi ⟨a1, b1, c1, hb1, rfl⟩ (fun x hx ρh ⟨a3, b3, c3, hb3, e⟩ => by
      subst e
      obtain ⟨r4, a4, b4, c4, hr4, hb4, e4⟩ := draw_ok (P := P) n a3 b3 c3 hb3 4 (by omega) (by omega)
      refine ⟨_, decide ((r4 : Int) < 1 + (r : Int)), [some (.ln (pool a4 b4 c4)), some (.fz (.int (cells : Int))), some (.fz (.int (1 + (r : Int)))), some (.fz (.int (x : Int)))], rfl, ?_, fun _ => ⟨a4, b4, c4, hb4, rfl⟩, fun _ => ⟨.sl 3, [some (.ln (pool a4 b4 c4)), some (.fz (.int (cells : Int))), some (.fz (.int (1 + (r : Int)))), some (.fz (.int (x : Int)))], [some (.ln (pool a4 b4 c4)), some (.fz (.int (cells : Int))), some (.fz (.int (1 + (r : Int)))), some (.fz (.int (x : Int)))], by simp [v_nil, v_cons, v_star, v_bor, v_lend, v_var, v_give, v_int, v_bl, v_non, v_str, v_glob, v_bin, v_neg, v_not, v_cmp, v_cmp2, v_and, v_or, v_ite, v_tup, v_lst, v_ix, v_sl, v_call, v_callK, v_bi, v_divmod, v_mt, v_app, v_isi, v_itP, v_itE, v_rev, v_dnil, v_dkv, v_dun, v_dds, w_skip, w_seq, w_ex, w_asg, w_par, w_ite, w_ret, w_retN, Ev.R.c1, Ev.R.ca, Ev.R.cl, Ev.R.co, Ev.R.ci, Ev.R.cf, Ev.R.fl, slot, rd, Ev.Slot.d, tests, truD, tk, tkAll, rdAll, tkFr, tkS1, tkSl, parG, ofOpt, asgT, Ev.T.count, asgG, Ev.asgG.asgGs, putS, runCall, lendOk, mems, argsOf, argOf, outsTo, outsOf, finish, walkOf, itemsD, needLock, lock, Ev.F.unlock, unlock, hide, testOf, permD, binD, intD, addD, itemD, setD, biD, b_lenL, b_lenT, nats_length, bInt, bList, b_tupL, b_tupT, b_sortD, b_sortN, isiD, c_lt, c_le, c_gt, c_ge, c_eqI, c_neI, c_inL, c_inT, c_ninL, c_ninT, c_inD, len_dictN, List.map_cons, List.map_nil, List.length_cons, List.length_nil, List.replicate_succ, List.replicate_zero, List.cons_append, List.nil_append, List.append_nil, List.getElem?_cons_zero, List.getElem?_cons_succ, List.set_cons_zero, List.set_cons_succ, Option.map_some, Option.map_none, Option.bind_some, Option.any_some], by simp [v_nil, v_cons, v_star, v_bor, v_lend, v_var, v_give, v_int, v_bl, v_non, v_str, v_glob, v_bin, v_neg, v_not, v_cmp, v_cmp2, v_and, v_or, v_ite, v_tup, v_lst, v_ix, v_sl, v_call, v_callK, v_bi, v_divmod, v_mt, v_app, v_isi, v_itP, v_itE, v_rev, v_dnil, v_dkv, v_dun, v_dds, w_skip, w_seq, w_ex, w_asg, w_par, w_ite, w_ret, w_retN, Ev.R.c1, Ev.R.ca, Ev.R.cl, Ev.R.co, Ev.R.ci, Ev.R.cf, Ev.R.fl, slot, rd, Ev.Slot.d, tests, truD, tk, tkAll, rdAll, tkFr, tkS1, tkSl, parG, ofOpt, asgT, Ev.T.count, asgG, Ev.asgG.asgGs, putS, runCall, lendOk, mems, argsOf, argOf, outsTo, outsOf, finish, walkOf, itemsD, needLock, lock, Ev.F.unlock, unlock, hide, testOf, permD, binD, intD, addD, itemD, setD, biD, b_lenL, b_lenT, nats_length, bInt, bList, b_tupL, b_tupT, b_sortD, b_sortN, isiD, c_lt, c_le, c_gt, c_ge, c_eqI, c_neI, c_inL, c_inT, c_ninL, c_ninT, c_inD, len_dictN, List.map_cons, List.map_nil, List.length_cons, List.length_nil, List.replicate_succ, List.replicate_zero, List.cons_append, List.nil_append, List.append_nil, List.getElem?_cons_zero, List.getElem?_cons_succ, List.set_cons_zero, List.set_cons_succ, Option.map_some, Option.map_none, Option.bind_some, Option.any_some], a4, b4, c4, hb4, rfl⟩⟩
      simp at e4
      simp [v_nil, v_cons, v_star, v_bor, v_lend, v_var, v_give, v_int, v_bl, v_non, v_str, v_glob, v_bin, v_neg, v_not, v_cmp, v_cmp2, v_and, v_or, v_ite, v_tup, v_lst, v_ix, v_sl, v_call, v_callK, v_bi, v_divmod, v_mt, v_app, v_isi, v_itP, v_itE, v_rev, v_dnil, v_dkv, v_dun, v_dds, w_skip, w_seq, w_ex, w_asg, w_par, w_ite, w_ret, w_retN, Ev.R.c1, Ev.R.ca, Ev.R.cl, Ev.R.co, Ev.R.ci, Ev.R.cf, Ev.R.fl, slot, rd, Ev.Slot.d, tests, truD, tk, tkAll, rdAll, tkFr, tkS1, tkSl, parG, ofOpt, asgT, Ev.T.count, asgG, Ev.asgG.asgGs, putS, runCall, lendOk, mems, argsOf, argOf, outsTo, outsOf, finish, walkOf, itemsD, needLock, lock, Ev.F.unlock, unlock, hide, testOf, permD, binD, intD, addD, itemD, setD, biD, b_lenL, b_lenT, nats_length, bInt, bList, b_tupL, b_tupT, b_sortD, b_sortN, isiD, c_lt, c_le, c_gt, c_ge, c_eqI, c_neI, c_inL, c_inT, c_ninL, c_ninT, c_inD, len_dictN, List.map_cons, List.map_nil, List.length_cons, List.length_nil, List.replicate_succ, List.replicate_zero, List.cons_append, List.nil_append, List.append_nil, List.getElem?_cons_zero, List.getElem?_cons_succ, List.set_cons_zero, List.set_cons_succ, Option.map_some, Option.map_none, Option.bind_some, Option.any_some, e4]) (by rw [List.length_range]; unfold LIM; omega)
  refine ⟨lot, a2, b2, c2, s, hb2, ?_⟩
  have q' : ev ⟨callN P (n + 1), P.glob, P.rep⟩ (.lc (.nm 3 false) (.itR (.cons (.var 1) .nil)) (.cmp (.call 24 (.cons (.lend 0) (.cons (.int 4) .nil))) (.link .lt (.var 2) .nil)) (.var 3) [3]) [some (.ln (pool a1 b1 c1)), some (.fz (.int (cells : Int))), some (.fz (.int (1 + (r : Int)))), none]
      = .ok (.fr (.lst (nats lot))) [some (.ln (pool a2 b2 c2)), some (.fz (.int (cells : Int))), some (.fz (.int (1 + (r : Int)))), none] := q
  refine call_fz (ρ' := [some (.ln (pool a2 b2 c2)), some (.fz (.int (cells : Int))), some (.fz (.int (1 + (r : Int)))), none]) fn_law_fill rfl ((seq_nx (ρ1 := [some (.ln (pool a1 b1 c1)), some (.fz (.int (cells : Int))), some (.fz (.int (1 + (r : Int)))), none]) ?_).trans ?_) (by simp [outsOf])
  · simp at e1
    simp [f__law_fill, v_nil, v_cons, v_star, v_bor, v_lend, v_var, v_give, v_int, v_bl, v_non, v_str, v_glob, v_bin, v_neg, v_not, v_cmp, v_cmp2, v_and, v_or, v_ite, v_tup, v_lst, v_ix, v_sl, v_call, v_callK, v_bi, v_divmod, v_mt, v_app, v_isi, v_itP, v_itE, v_rev, v_dnil, v_dkv, v_dun, v_dds, w_skip, w_seq, w_ex, w_asg, w_par, w_ite, w_ret, w_retN, Ev.R.c1, Ev.R.ca, Ev.R.cl, Ev.R.co, Ev.R.ci, Ev.R.cf, Ev.R.fl, slot, rd, Ev.Slot.d, tests, truD, tk, tkAll, rdAll, tkFr, tkS1, tkSl, parG, ofOpt, asgT, Ev.T.count, asgG, Ev.asgG.asgGs, putS, runCall, lendOk, mems, argsOf, argOf, outsTo, outsOf, finish, walkOf, itemsD, needLock, lock, Ev.F.unlock, unlock, hide, testOf, permD, binD, intD, addD, itemD, setD, biD, b_lenL, b_lenT, nats_length, bInt, bList, b_tupL, b_tupT, b_sortD, b_sortN, isiD, c_lt, c_le, c_gt, c_ge, c_eqI, c_neI, c_inL, c_inT, c_ninL, c_ninT, c_inD, len_dictN, List.map_cons, List.map_nil, List.length_cons, List.length_nil, List.replicate_succ, List.replicate_zero, List.cons_append, List.nil_append, List.append_nil, List.getElem?_cons_zero, List.getElem?_cons_succ, List.set_cons_zero, List.set_cons_succ, Option.map_some, Option.map_none, Option.bind_some, Option.any_some, e1]
  · exact ret_tupL q'
theorem fn_law_pick : P.fns[25]? = some f__law_pick := by rw [Has.fns]; rfl
theorem pick_ok (n : Nat) (a b c : Int) (hb : 0 ≤ b) (xs : List Nat) (h0 : xs ≠ []) (hl : xs.length < 1000000) : ∃ (x : Nat) (a' b' c' : Int), x ∈ xs ∧ 0 ≤ b' ∧
    callN P (n + 2) 25 [.ln (pool a b c), .fz (.lst (nats xs))] = .ok false (.int (x : Int)) [pool a' b' c'] := by
  obtain ⟨r, a1, b1, c1, hr, hb1, e1⟩ := draw_ok (P := P) n a b c hb xs.length (List.length_pos_iff.mpr h0) hl
  refine ⟨xs[r], a1, b1, c1, List.getElem_mem hr, hb1, ?_⟩
  exact call_fz (ρ' := [some (.ln (pool a1 b1 c1)), some (.fz (.lst (nats xs)))]) fn_law_pick rfl (by simp [f__law_pick, v_nil, v_cons, v_star, v_bor, v_lend, v_var, v_give, v_int, v_bl, v_non, v_str, v_glob, v_bin, v_neg, v_not, v_cmp, v_cmp2, v_and, v_or, v_ite, v_tup, v_lst, v_ix, v_sl, v_call, v_callK, v_bi, v_divmod, v_mt, v_app, v_isi, v_itP, v_itE, v_rev, v_dnil, v_dkv, v_dun, v_dds, w_skip, w_seq, w_ex, w_asg, w_par, w_ite, w_ret, w_retN, Ev.R.c1, Ev.R.ca, Ev.R.cl, Ev.R.co, Ev.R.ci, Ev.R.cf, Ev.R.fl, slot, rd, Ev.Slot.d, tests, truD, tk, tkAll, rdAll, tkFr, tkS1, tkSl, parG, ofOpt, asgT, Ev.T.count, asgG, Ev.asgG.asgGs, putS, runCall, lendOk, mems, argsOf, argOf, outsTo, outsOf, finish, walkOf, itemsD, needLock, lock, Ev.F.unlock, unlock, hide, testOf, permD, binD, intD, addD, itemD, setD, biD, b_lenL, b_lenT, nats_length, bInt, bList, b_tupL, b_tupT, b_sortD, b_sortN, isiD, c_lt, c_le, c_gt, c_ge, c_eqI, c_neI, c_inL, c_inT, c_ninL, c_ninT, c_inD, len_dictN, List.map_cons, List.map_nil, List.length_cons, List.length_nil, List.replicate_succ, List.replicate_zero, List.cons_append, List.nil_append, List.append_nil, List.getElem?_cons_zero, List.getElem?_cons_succ, List.set_cons_zero, List.set_cons_succ, Option.map_some, Option.map_none, Option.bind_some, Option.any_some, e1, ix_nat hr, nats_at hr]) (by simp [outsOf])
theorem fn_law_grown : P.fns[31]? = some f__law_grown := by rw [Has.fns]; rfl
theorem lawGrown_ok (n : Nat) (a b c : Int) (hb : 0 ≤ b) (side cells : Nat) (hc : 0 < cells) (hc2 : cells ≤ 100) (nbr : Nat → List Nat) (hn : ∀ c, (nbr c).length ≤ 100)
    (near : ∀ (m c : Nat), c < cells → callN P (m + 2) 27 [.fz (.int (side : Int)), .fz (.int (c : Int))] = .ok false (tup (nbr c)) []) :
    ∃ (lot : List Nat) (a' b' c' : Int), Up lot ∧ (∀ x ∈ lot, x < cells) ∧ 0 ≤ b' ∧
      callN P (n + 3) 31 [.ln (pool a b c), .fz (.int (side : Int)), .fz (.int (cells : Int))] = .ok false (tup lot) [pool a' b' c'] := by
  obtain ⟨r0, a1, b1, c1, hr0, hb1, e1⟩ := draw_ok (P := P) (n + 1) a b c hb cells hc (by omega)
  obtain ⟨r1, a2, b2, c2, hr1, hb2, e2⟩ := draw_ok (P := P) (n + 1) a1 b1 c1 hb1 cells hc (by omega)
  have lp := forGo_list (g := .nm 4 false) (body := fun ρ => evS ⟨callN P (n + 2), P.glob, P.rep⟩ P.fuel (.seq (.asg (.nm 5 false) (.lc (.nm 6 false) (.itR (.cons (.var 2) .nil)) (.and (.cmp (.var 6) (.link .notin (.var 3) .nil)) (.cmp (.lc (.nm 7 false) (.itP (.call 27 (.cons (.var 1) (.cons (.var 6) .nil)))) (.cmp (.var 7) (.link .isin (.var 3) .nil)) (.int 1) [7]) (.link .ne (.lst .nil) .nil))) (.var 6) [6])) (.ite (.cmp (.var 5) (.link .ne (.lst .nil) .nil)) (.ex (.mu .append 3 (.cons (.call 25 (.cons (.lend 0) (.cons (.var 5) .nil))) .nil))) .skip)) ρ)
    (fun _ ρ => ∃ (a b c : Int) (found : List Nat) (o4 o5 : Option Slot), 0 ≤ b ∧ found.Nodup ∧ (∀ x ∈ found, x < cells) ∧ (o4 = none ∨ ∃ d, o4 = some (.fz d)) ∧ (o5 = none ∨ ∃ d, o5 = some (.fz d)) ∧ ρ = [some (.ln (pool a b c)), some (.fz (.int (side : Int))), some (.fz (.int (cells : Int))), some (.ow (.lst (nats found))), o4, o5, none, none])
    (nats (List.range r1)) [some (.ln (pool a2 b2 c2)), some (.fz (.int (side : Int))), some (.fz (.int (cells : Int))), some (.ow (.lst (nats [r0]))), none, none, none, none]
    ⟨a2, b2, c2, [r0], none, none, hb2, by simp, fun x hx => by rw [List.mem_singleton.mp hx]; exact hr0, .inl rfl, .inl rfl, rfl⟩ (fun i x ρ hx ⟨a, b, c, found, o4, o5, hb, nd, hf, h4, h5, e⟩ => ?_)
  · obtain ⟨ρ', q1, a3, b3, c3, found, o4, o5, hb3, nd, hf, h4, h5, rfl⟩ := lp
    refine ⟨sortN found, a3, b3, c3, sortN_up nd, fun x hx => hf x (sortN_mem.mp hx), hb3, ?_⟩
    refine call_fz (ρ' := [some (.ln (pool a3 b3 c3)), some (.fz (.int (side : Int))), some (.fz (.int (cells : Int))), some (.ow (.lst (nats found))), o4, o5, none, none]) fn_law_grown rfl
      ((seq_nx (ρ1 := [some (.ln (pool a1 b1 c1)), some (.fz (.int (side : Int))), some (.fz (.int (cells : Int))), some (.ow (.lst (nats [r0]))), none, none, none, none]) ?_).trans ((seq_nx (loop_nx (ρ1 := [some (.ln (pool a2 b2 c2)), some (.fz (.int (side : Int))), some (.fz (.int (cells : Int))), some (.ow (.lst (nats [r0]))), none, none, none, none]) (itR1 (r := .fz (.int (r1 : Int))) ?_ rfl (by omega)) q1)).trans ?_)) (by simp [outsOf])
    · simp [f__law_grown, v_nil, v_cons, v_star, v_bor, v_lend, v_var, v_give, v_int, v_bl, v_non, v_str, v_glob, v_bin, v_neg, v_not, v_cmp, v_cmp2, v_and, v_or, v_ite, v_tup, v_lst, v_ix, v_sl, v_call, v_callK, v_bi, v_divmod, v_mt, v_app, v_isi, v_itP, v_itE, v_rev, v_dnil, v_dkv, v_dun, v_dds, w_skip, w_seq, w_ex, w_asg, w_par, w_ite, w_ret, w_retN, Ev.R.c1, Ev.R.ca, Ev.R.cl, Ev.R.co, Ev.R.ci, Ev.R.cf, Ev.R.fl, slot, rd, Ev.Slot.d, tests, truD, tk, tkAll, rdAll, tkFr, tkS1, tkSl, parG, ofOpt, asgT, Ev.T.count, asgG, Ev.asgG.asgGs, putS, runCall, lendOk, mems, argsOf, argOf, outsTo, outsOf, finish, walkOf, itemsD, needLock, lock, Ev.F.unlock, unlock, hide, testOf, permD, binD, intD, addD, itemD, setD, biD, b_lenL, b_lenT, nats_length, bInt, bList, b_tupL, b_tupT, b_sortD, b_sortN, isiD, c_lt, c_le, c_gt, c_ge, c_eqI, c_neI, c_inL, c_inT, c_ninL, c_ninT, c_inD, len_dictN, List.map_cons, List.map_nil, List.length_cons, List.length_nil, List.replicate_succ, List.replicate_zero, List.cons_append, List.nil_append, List.append_nil, List.getElem?_cons_zero, List.getElem?_cons_succ, List.set_cons_zero, List.set_cons_succ, Option.map_some, Option.map_none, Option.bind_some, Option.any_some, e1, LIM]
    · simp [v_nil, v_cons, v_star, v_bor, v_lend, v_var, v_give, v_int, v_bl, v_non, v_str, v_glob, v_bin, v_neg, v_not, v_cmp, v_cmp2, v_and, v_or, v_ite, v_tup, v_lst, v_ix, v_sl, v_call, v_callK, v_bi, v_divmod, v_mt, v_app, v_isi, v_itP, v_itE, v_rev, v_dnil, v_dkv, v_dun, v_dds, w_skip, w_seq, w_ex, w_asg, w_par, w_ite, w_ret, w_retN, Ev.R.c1, Ev.R.ca, Ev.R.cl, Ev.R.co, Ev.R.ci, Ev.R.cf, Ev.R.fl, slot, rd, Ev.Slot.d, tests, truD, tk, tkAll, rdAll, tkFr, tkS1, tkSl, parG, ofOpt, asgT, Ev.T.count, asgG, Ev.asgG.asgGs, putS, runCall, lendOk, mems, argsOf, argOf, outsTo, outsOf, finish, walkOf, itemsD, needLock, lock, Ev.F.unlock, unlock, hide, testOf, permD, binD, intD, addD, itemD, setD, biD, b_lenL, b_lenT, nats_length, bInt, bList, b_tupL, b_tupT, b_sortD, b_sortN, isiD, c_lt, c_le, c_gt, c_ge, c_eqI, c_neI, c_inL, c_inT, c_ninL, c_ninT, c_inD, len_dictN, List.map_cons, List.map_nil, List.length_cons, List.length_nil, List.replicate_succ, List.replicate_zero, List.cons_append, List.nil_append, List.append_nil, List.getElem?_cons_zero, List.getElem?_cons_succ, List.set_cons_zero, List.set_cons_succ, Option.map_some, Option.map_none, Option.bind_some, Option.any_some, e2]
    · refine ret_tupL (xs := nats (sortN found)) ?_
      simp [v_nil, v_cons, v_star, v_bor, v_lend, v_var, v_give, v_int, v_bl, v_non, v_str, v_glob, v_bin, v_neg, v_not, v_cmp, v_cmp2, v_and, v_or, v_ite, v_tup, v_lst, v_ix, v_sl, v_call, v_callK, v_bi, v_divmod, v_mt, v_app, v_isi, v_itP, v_itE, v_rev, v_dnil, v_dkv, v_dun, v_dds, w_skip, w_seq, w_ex, w_asg, w_par, w_ite, w_ret, w_retN, Ev.R.c1, Ev.R.ca, Ev.R.cl, Ev.R.co, Ev.R.ci, Ev.R.cf, Ev.R.fl, slot, rd, Ev.Slot.d, tests, truD, tk, tkAll, rdAll, tkFr, tkS1, tkSl, parG, ofOpt, asgT, Ev.T.count, asgG, Ev.asgG.asgGs, putS, runCall, lendOk, mems, argsOf, argOf, outsTo, outsOf, finish, walkOf, itemsD, needLock, lock, Ev.F.unlock, unlock, hide, testOf, permD, binD, intD, addD, itemD, setD, biD, b_lenL, b_lenT, nats_length, bInt, bList, b_tupL, b_tupT, b_sortD, b_sortN, isiD, c_lt, c_le, c_gt, c_ge, c_eqI, c_neI, c_inL, c_inT, c_ninL, c_ninT, c_inD, len_dictN, List.map_cons, List.map_nil, List.length_cons, List.length_nil, List.replicate_succ, List.replicate_zero, List.cons_append, List.nil_append, List.append_nil, List.getElem?_cons_zero, List.getElem?_cons_succ, List.set_cons_zero, List.set_cons_succ, Option.map_some, Option.map_none, Option.bind_some, Option.any_some]
  · subst e
    rw [nats_get] at hx
    obtain ⟨k, hk, rfl⟩ := Option.map_eq_some_iff.mp hx
    refine ⟨[some (.ln (pool a b c)), some (.fz (.int (side : Int))), some (.fz (.int (cells : Int))), some (.ow (.lst (nats found))), some (.fz (.int (k : Int))), o5, none, none], ?_, ?_⟩
    · rcases h4 with rfl | ⟨d, rfl⟩ <;> simp [v_nil, v_cons, v_star, v_bor, v_lend, v_var, v_give, v_int, v_bl, v_non, v_str, v_glob, v_bin, v_neg, v_not, v_cmp, v_cmp2, v_and, v_or, v_ite, v_tup, v_lst, v_ix, v_sl, v_call, v_callK, v_bi, v_divmod, v_mt, v_app, v_isi, v_itP, v_itE, v_rev, v_dnil, v_dkv, v_dun, v_dds, w_skip, w_seq, w_ex, w_asg, w_par, w_ite, w_ret, w_retN, Ev.R.c1, Ev.R.ca, Ev.R.cl, Ev.R.co, Ev.R.ci, Ev.R.cf, Ev.R.fl, slot, rd, Ev.Slot.d, tests, truD, tk, tkAll, rdAll, tkFr, tkS1, tkSl, parG, ofOpt, asgT, Ev.T.count, asgG, Ev.asgG.asgGs, putS, runCall, lendOk, mems, argsOf, argOf, outsTo, outsOf, finish, walkOf, itemsD, needLock, lock, Ev.F.unlock, unlock, hide, testOf, permD, binD, intD, addD, itemD, setD, biD, b_lenL, b_lenT, nats_length, bInt, bList, b_tupL, b_tupT, b_sortD, b_sortN, isiD, c_lt, c_le, c_gt, c_ge, c_eqI, c_neI, c_inL, c_inT, c_ninL, c_ninT, c_inD, len_dictN, List.map_cons, List.map_nil, List.length_cons, List.length_nil, List.replicate_succ, List.replicate_zero, List.cons_append, List.nil_append, List.append_nil, List.getElem?_cons_zero, List.getElem?_cons_succ, List.set_cons_zero, List.set_cons_succ, Option.map_some, Option.map_none, Option.bind_some, Option.any_some]
    · have hP : ∃ Pd : Nat → Bool, (∀ x, Pd x = true → x ∉ found) ∧ ev ⟨callN P (n + 2), P.glob, P.rep⟩ (.lc (.nm 6 false) (.itR (.cons (.var 2) .nil)) (.and (.cmp (.var 6) (.link .notin (.var 3) .nil)) (.cmp (.lc (.nm 7 false) (.itP (.call 27 (.cons (.var 1) (.cons (.var 6) .nil)))) (.cmp (.var 7) (.link .isin (.var 3) .nil)) (.int 1) [7]) (.link .ne (.lst .nil) .nil))) (.var 6) [6])
          [some (.ln (pool a b c)), some (.fz (.int (side : Int))), some (.fz (.int (cells : Int))), some (.ow (.lst (nats found))), some (.fz (.int (k : Int))), o5, none, none] = .ok (.fr (.lst (nats ((List.range cells).filter Pd)))) [some (.ln (pool a b c)), some (.fz (.int (side : Int))), some (.fz (.int (cells : Int))), some (.ow (.lst (nats found))), some (.fz (.int (k : Int))), o5, none, none] := by
        refine ⟨fun x => !decide (x ∈ found) && !((nbr x).filter fun e => decide (e ∈ found)).isEmpty, fun x hx => ?_, ?_⟩
        · simp at hx
          exact hx.1
        · refine (lc_is (T := fun k : Nat => D.int (k : Int)) (b := fun x => !decide (x ∈ found) && !((nbr x).filter fun e => decide (e ∈ found)).isEmpty) (f := fun k : Nat => D.int (k : Int)) (l := List.range cells) (itR1 (r := .sl 2) (by simp [v_nil, v_cons, v_star, v_bor, v_lend, v_var, v_give, v_int, v_bl, v_non, v_str, v_glob, v_bin, v_neg, v_not, v_cmp, v_cmp2, v_and, v_or, v_ite, v_tup, v_lst, v_ix, v_sl, v_call, v_callK, v_bi, v_divmod, v_mt, v_app, v_isi, v_itP, v_itE, v_rev, v_dnil, v_dkv, v_dun, v_dds, w_skip, w_seq, w_ex, w_asg, w_par, w_ite, w_ret, w_retN, Ev.R.c1, Ev.R.ca, Ev.R.cl, Ev.R.co, Ev.R.ci, Ev.R.cf, Ev.R.fl, slot, rd, Ev.Slot.d, tests, truD, tk, tkAll, rdAll, tkFr, tkS1, tkSl, parG, ofOpt, asgT, Ev.T.count, asgG, Ev.asgG.asgGs, putS, runCall, lendOk, mems, argsOf, argOf, outsTo, outsOf, finish, walkOf, itemsD, needLock, lock, Ev.F.unlock, unlock, hide, testOf, permD, binD, intD, addD, itemD, setD, biD, b_lenL, b_lenT, nats_length, bInt, bList, b_tupL, b_tupT, b_sortD, b_sortN, isiD, c_lt, c_le, c_gt, c_ge, c_eqI, c_neI, c_inL, c_inT, c_ninL, c_ninT, c_inD, len_dictN, List.map_cons, List.map_nil, List.length_cons, List.length_nil, List.replicate_succ, List.replicate_zero, List.cons_append, List.nil_append, List.append_nil, List.getElem?_cons_zero, List.getElem?_cons_succ, List.set_cons_zero, List.set_cons_succ, Option.map_some, Option.map_none, Option.bind_some, Option.any_some]) rfl (by omega)) (fun x hx => ⟨[some (.ln (pool a b c)), some (.fz (.int (side : Int))), some (.fz (.int (cells : Int))), some (.ow (.lst (nats found))), some (.fz (.int (k : Int))), o5, some (.fz (.int (x : Int))), none], rfl, rfl, ?_, fun _ => ?_⟩) (by rw [List.length_range]; unfold LIM; omega)).trans rfl
          · have e7 : ev ⟨callN P (n + 2), P.glob, P.rep⟩ (.lc (.nm 7 false) (.itP (.call 27 (.cons (.var 1) (.cons (.var 6) .nil)))) (.cmp (.var 7) (.link .isin (.var 3) .nil)) (.int 1) [7]) [some (.ln (pool a b c)), some (.fz (.int (side : Int))), some (.fz (.int (cells : Int))), some (.ow (.lst (nats found))), some (.fz (.int (k : Int))), o5, some (.fz (.int (x : Int))), none]
                = .ok (.fr (.lst (((nbr x).filter fun e => decide (e ∈ found)).map fun _ => .int 1))) [some (.ln (pool a b c)), some (.fz (.int (side : Int))), some (.fz (.int (cells : Int))), some (.ow (.lst (nats found))), some (.fz (.int (k : Int))), o5, some (.fz (.int (x : Int))), none] := by
              refine lc_is (T := fun k : Nat => D.int (k : Int)) (b := fun e => decide (e ∈ found)) (f := fun _ => .int 1) (l := nbr x) ?_ (fun y hy => ⟨[some (.ln (pool a b c)), some (.fz (.int (side : Int))), some (.fz (.int (cells : Int))), some (.ow (.lst (nats found))), some (.fz (.int (k : Int))), o5, some (.fz (.int (x : Int))), some (.fz (.int (y : Int)))], rfl, rfl, by simp [Is, v_nil, v_cons, v_star, v_bor, v_lend, v_var, v_give, v_int, v_bl, v_non, v_str, v_glob, v_bin, v_neg, v_not, v_cmp, v_cmp2, v_and, v_or, v_ite, v_tup, v_lst, v_ix, v_sl, v_call, v_callK, v_bi, v_divmod, v_mt, v_app, v_isi, v_itP, v_itE, v_rev, v_dnil, v_dkv, v_dun, v_dds, w_skip, w_seq, w_ex, w_asg, w_par, w_ite, w_ret, w_retN, Ev.R.c1, Ev.R.ca, Ev.R.cl, Ev.R.co, Ev.R.ci, Ev.R.cf, Ev.R.fl, slot, rd, Ev.Slot.d, tests, truD, tk, tkAll, rdAll, tkFr, tkS1, tkSl, parG, ofOpt, asgT, Ev.T.count, asgG, Ev.asgG.asgGs, putS, runCall, lendOk, mems, argsOf, argOf, outsTo, outsOf, finish, walkOf, itemsD, needLock, lock, Ev.F.unlock, unlock, hide, testOf, permD, binD, intD, addD, itemD, setD, biD, b_lenL, b_lenT, nats_length, bInt, bList, b_tupL, b_tupT, b_sortD, b_sortN, isiD, c_lt, c_le, c_gt, c_ge, c_eqI, c_neI, c_inL, c_inT, c_ninL, c_ninT, c_inD, len_dictN, List.map_cons, List.map_nil, List.length_cons, List.length_nil, List.replicate_succ, List.replicate_zero, List.cons_append, List.nil_append, List.append_nil, List.getElem?_cons_zero, List.getElem?_cons_succ, List.set_cons_zero, List.set_cons_succ, Option.map_some, Option.map_none, Option.bind_some, Option.any_some], fun _ => by simp [Is, v_nil, v_cons, v_star, v_bor, v_lend, v_var, v_give, v_int, v_bl, v_non, v_str, v_glob, v_bin, v_neg, v_not, v_cmp, v_cmp2, v_and, v_or, v_ite, v_tup, v_lst, v_ix, v_sl, v_call, v_callK, v_bi, v_divmod, v_mt, v_app, v_isi, v_itP, v_itE, v_rev, v_dnil, v_dkv, v_dun, v_dds, w_skip, w_seq, w_ex, w_asg, w_par, w_ite, w_ret, w_retN, Ev.R.c1, Ev.R.ca, Ev.R.cl, Ev.R.co, Ev.R.ci, Ev.R.cf, Ev.R.fl, slot, rd, Ev.Slot.d, tests, truD, tk, tkAll, rdAll, tkFr, tkS1, tkSl, parG, ofOpt, asgT, Ev.T.count, asgG, Ev.asgG.asgGs, putS, runCall, lendOk, mems, argsOf, argOf, outsTo, outsOf, finish, walkOf, itemsD, needLock, lock, Ev.F.unlock, unlock, hide, testOf, permD, binD, intD, addD, itemD, setD, biD, b_lenL, b_lenT, nats_length, bInt, bList, b_tupL, b_tupT, b_sortD, b_sortN, isiD, c_lt, c_le, c_gt, c_ge, c_eqI, c_neI, c_inL, c_inT, c_ninL, c_ninT, c_inD, len_dictN, List.map_cons, List.map_nil, List.length_cons, List.length_nil, List.replicate_succ, List.replicate_zero, List.cons_append, List.nil_append, List.append_nil, List.getElem?_cons_zero, List.getElem?_cons_succ, List.set_cons_zero, List.set_cons_succ, Option.map_some, Option.map_none, Option.bind_some, Option.any_some]⟩) (by have := hn x; unfold LIM; omega)
              simp [v_nil, v_cons, v_star, v_bor, v_lend, v_var, v_give, v_int, v_bl, v_non, v_str, v_glob, v_bin, v_neg, v_not, v_cmp, v_cmp2, v_and, v_or, v_ite, v_tup, v_lst, v_ix, v_sl, v_call, v_callK, v_bi, v_divmod, v_mt, v_app, v_isi, v_itP, v_itE, v_rev, v_dnil, v_dkv, v_dun, v_dds, w_skip, w_seq, w_ex, w_asg, w_par, w_ite, w_ret, w_retN, Ev.R.c1, Ev.R.ca, Ev.R.cl, Ev.R.co, Ev.R.ci, Ev.R.cf, Ev.R.fl, slot, rd, Ev.Slot.d, tests, truD, tk, tkAll, rdAll, tkFr, tkS1, tkSl, parG, ofOpt, asgT, Ev.T.count, asgG, Ev.asgG.asgGs, putS, runCall, lendOk, mems, argsOf, argOf, outsTo, outsOf, finish, walkOf, itemsD, needLock, lock, Ev.F.unlock, unlock, hide, testOf, permD, binD, intD, addD, itemD, setD, biD, b_lenL, b_lenT, nats_length, bInt, bList, b_tupL, b_tupT, b_sortD, b_sortN, isiD, c_lt, c_le, c_gt, c_ge, c_eqI, c_neI, c_inL, c_inT, c_ninL, c_ninT, c_inD, len_dictN, List.map_cons, List.map_nil, List.length_cons, List.length_nil, List.replicate_succ, List.replicate_zero, List.cons_append, List.nil_append, List.append_nil, List.getElem?_cons_zero, List.getElem?_cons_succ, List.set_cons_zero, List.set_cons_succ, Option.map_some, Option.map_none, Option.bind_some, Option.any_some, near n x (List.mem_range.mp hx), tup, nats]
            have e8 := c_neL (((nbr x).filter fun e => decide (e ∈ found)).map fun _ => D.int 1) (plainAll_map 39 _ _ fun _ _ => rfl)
            have e9 : (((nbr x).filter fun e => decide (e ∈ found)).map fun _ => D.int 1).isEmpty = ((nbr x).filter fun e => decide (e ∈ found)).isEmpty := by cases (nbr x).filter fun e => decide (e ∈ found) <;> rfl
            rw [e9] at e8
            by_cases c1 : x ∈ found
            · simp [Is, v_nil, v_cons, v_star, v_bor, v_lend, v_var, v_give, v_int, v_bl, v_non, v_str, v_glob, v_bin, v_neg, v_not, v_cmp, v_cmp2, v_and, v_or, v_ite, v_tup, v_lst, v_ix, v_sl, v_call, v_callK, v_bi, v_divmod, v_mt, v_app, v_isi, v_itP, v_itE, v_rev, v_dnil, v_dkv, v_dun, v_dds, w_skip, w_seq, w_ex, w_asg, w_par, w_ite, w_ret, w_retN, Ev.R.c1, Ev.R.ca, Ev.R.cl, Ev.R.co, Ev.R.ci, Ev.R.cf, Ev.R.fl, slot, rd, Ev.Slot.d, tests, truD, tk, tkAll, rdAll, tkFr, tkS1, tkSl, parG, ofOpt, asgT, Ev.T.count, asgG, Ev.asgG.asgGs, putS, runCall, lendOk, mems, argsOf, argOf, outsTo, outsOf, finish, walkOf, itemsD, needLock, lock, Ev.F.unlock, unlock, hide, testOf, permD, binD, intD, addD, itemD, setD, biD, b_lenL, b_lenT, nats_length, bInt, bList, b_tupL, b_tupT, b_sortD, b_sortN, isiD, c_lt, c_le, c_gt, c_ge, c_eqI, c_neI, c_inL, c_inT, c_ninL, c_ninT, c_inD, len_dictN, List.map_cons, List.map_nil, List.length_cons, List.length_nil, List.replicate_succ, List.replicate_zero, List.cons_append, List.nil_append, List.append_nil, List.getElem?_cons_zero, List.getElem?_cons_succ, List.set_cons_zero, List.set_cons_succ, Option.map_some, Option.map_none, Option.bind_some, Option.any_some, c1]
            · simp [Is, v_nil, v_cons, v_star, v_bor, v_lend, v_var, v_give, v_int, v_bl, v_non, v_str, v_glob, v_bin, v_neg, v_not, v_cmp, v_cmp2, v_and, v_or, v_ite, v_tup, v_lst, v_ix, v_sl, v_call, v_callK, v_bi, v_divmod, v_mt, v_app, v_isi, v_itP, v_itE, v_rev, v_dnil, v_dkv, v_dun, v_dds, w_skip, w_seq, w_ex, w_asg, w_par, w_ite, w_ret, w_retN, Ev.R.c1, Ev.R.ca, Ev.R.cl, Ev.R.co, Ev.R.ci, Ev.R.cf, Ev.R.fl, slot, rd, Ev.Slot.d, tests, truD, tk, tkAll, rdAll, tkFr, tkS1, tkSl, parG, ofOpt, asgT, Ev.T.count, asgG, Ev.asgG.asgGs, putS, runCall, lendOk, mems, argsOf, argOf, outsTo, outsOf, finish, walkOf, itemsD, needLock, lock, Ev.F.unlock, unlock, hide, testOf, permD, binD, intD, addD, itemD, setD, biD, b_lenL, b_lenT, nats_length, bInt, bList, b_tupL, b_tupT, b_sortD, b_sortN, isiD, c_lt, c_le, c_gt, c_ge, c_eqI, c_neI, c_inL, c_inT, c_ninL, c_ninT, c_inD, len_dictN, List.map_cons, List.map_nil, List.length_cons, List.length_nil, List.replicate_succ, List.replicate_zero, List.cons_append, List.nil_append, List.append_nil, List.getElem?_cons_zero, List.getElem?_cons_succ, List.set_cons_zero, List.set_cons_succ, Option.map_some, Option.map_none, Option.bind_some, Option.any_some, c1, e7, e8]
          · simp [Is, v_nil, v_cons, v_star, v_bor, v_lend, v_var, v_give, v_int, v_bl, v_non, v_str, v_glob, v_bin, v_neg, v_not, v_cmp, v_cmp2, v_and, v_or, v_ite, v_tup, v_lst, v_ix, v_sl, v_call, v_callK, v_bi, v_divmod, v_mt, v_app, v_isi, v_itP, v_itE, v_rev, v_dnil, v_dkv, v_dun, v_dds, w_skip, w_seq, w_ex, w_asg, w_par, w_ite, w_ret, w_retN, Ev.R.c1, Ev.R.ca, Ev.R.cl, Ev.R.co, Ev.R.ci, Ev.R.cf, Ev.R.fl, slot, rd, Ev.Slot.d, tests, truD, tk, tkAll, rdAll, tkFr, tkS1, tkSl, parG, ofOpt, asgT, Ev.T.count, asgG, Ev.asgG.asgGs, putS, runCall, lendOk, mems, argsOf, argOf, outsTo, outsOf, finish, walkOf, itemsD, needLock, lock, Ev.F.unlock, unlock, hide, testOf, permD, binD, intD, addD, itemD, setD, biD, b_lenL, b_lenT, nats_length, bInt, bList, b_tupL, b_tupT, b_sortD, b_sortN, isiD, c_lt, c_le, c_gt, c_ge, c_eqI, c_neI, c_inL, c_inT, c_ninL, c_ninT, c_inD, len_dictN, List.map_cons, List.map_nil, List.length_cons, List.length_nil, List.replicate_succ, List.replicate_zero, List.cons_append, List.nil_append, List.append_nil, List.getElem?_cons_zero, List.getElem?_cons_succ, List.set_cons_zero, List.set_cons_succ, Option.map_some, Option.map_none, Option.bind_some, Option.any_some]
      obtain ⟨Pd, hP1, hP2⟩ := hP
      have hl : ((List.range cells).filter Pd).length ≤ cells := by have := List.length_filter_le Pd (List.range cells); rw [List.length_range] at this; exact this
      have s5 : evS ⟨callN P (n + 2), P.glob, P.rep⟩ P.fuel (.asg (.nm 5 false) (.lc (.nm 6 false) (.itR (.cons (.var 2) .nil)) (.and (.cmp (.var 6) (.link .notin (.var 3) .nil)) (.cmp (.lc (.nm 7 false) (.itP (.call 27 (.cons (.var 1) (.cons (.var 6) .nil)))) (.cmp (.var 7) (.link .isin (.var 3) .nil)) (.int 1) [7]) (.link .ne (.lst .nil) .nil))) (.var 6) [6])) [some (.ln (pool a b c)), some (.fz (.int (side : Int))), some (.fz (.int (cells : Int))), some (.ow (.lst (nats found))), some (.fz (.int (k : Int))), o5, none, none]
          = .nx [some (.ln (pool a b c)), some (.fz (.int (side : Int))), some (.fz (.int (cells : Int))), some (.ow (.lst (nats found))), some (.fz (.int (k : Int))), some (.fz (.lst (nats ((List.range cells).filter Pd)))), none, none] := by
        rw [w_asg, hP2]
        rcases h5 with rfl | ⟨d, rfl⟩ <;> simp [v_nil, v_cons, v_star, v_bor, v_lend, v_var, v_give, v_int, v_bl, v_non, v_str, v_glob, v_bin, v_neg, v_not, v_cmp, v_cmp2, v_and, v_or, v_ite, v_tup, v_lst, v_ix, v_sl, v_call, v_callK, v_bi, v_divmod, v_mt, v_app, v_isi, v_itP, v_itE, v_rev, v_dnil, v_dkv, v_dun, v_dds, w_skip, w_seq, w_ex, w_asg, w_par, w_ite, w_ret, w_retN, Ev.R.c1, Ev.R.ca, Ev.R.cl, Ev.R.co, Ev.R.ci, Ev.R.cf, Ev.R.fl, slot, rd, Ev.Slot.d, tests, truD, tk, tkAll, rdAll, tkFr, tkS1, tkSl, parG, ofOpt, asgT, Ev.T.count, asgG, Ev.asgG.asgGs, putS, runCall, lendOk, mems, argsOf, argOf, outsTo, outsOf, finish, walkOf, itemsD, needLock, lock, Ev.F.unlock, unlock, hide, testOf, permD, binD, intD, addD, itemD, setD, biD, b_lenL, b_lenT, nats_length, bInt, bList, b_tupL, b_tupT, b_sortD, b_sortN, isiD, c_lt, c_le, c_gt, c_ge, c_eqI, c_neI, c_inL, c_inT, c_ninL, c_ninT, c_inD, len_dictN, List.map_cons, List.map_nil, List.length_cons, List.length_nil, List.replicate_succ, List.replicate_zero, List.cons_append, List.nil_append, List.append_nil, List.getElem?_cons_zero, List.getElem?_cons_succ, List.set_cons_zero, List.set_cons_succ, Option.map_some, Option.map_none, Option.bind_some, Option.any_some]
      have ne := c_neL (nats ((List.range cells).filter Pd)) (plainAll_nats 39 _)
      by_cases c0 : (List.range cells).filter Pd = []
      · refine ⟨_, .inl ((seq_nx s5).trans ?_), a, b, c, found, some (.fz (.int (k : Int))), some (.fz (.lst (nats ((List.range cells).filter Pd)))), hb, nd, hf, .inr ⟨_, rfl⟩, .inr ⟨_, rfl⟩, rfl⟩
        rw [c0]
        simp [v_nil, v_cons, v_star, v_bor, v_lend, v_var, v_give, v_int, v_bl, v_non, v_str, v_glob, v_bin, v_neg, v_not, v_cmp, v_cmp2, v_and, v_or, v_ite, v_tup, v_lst, v_ix, v_sl, v_call, v_callK, v_bi, v_divmod, v_mt, v_app, v_isi, v_itP, v_itE, v_rev, v_dnil, v_dkv, v_dun, v_dds, w_skip, w_seq, w_ex, w_asg, w_par, w_ite, w_ret, w_retN, Ev.R.c1, Ev.R.ca, Ev.R.cl, Ev.R.co, Ev.R.ci, Ev.R.cf, Ev.R.fl, slot, rd, Ev.Slot.d, tests, truD, tk, tkAll, rdAll, tkFr, tkS1, tkSl, parG, ofOpt, asgT, Ev.T.count, asgG, Ev.asgG.asgGs, putS, runCall, lendOk, mems, argsOf, argOf, outsTo, outsOf, finish, walkOf, itemsD, needLock, lock, Ev.F.unlock, unlock, hide, testOf, permD, binD, intD, addD, itemD, setD, biD, b_lenL, b_lenT, nats_length, bInt, bList, b_tupL, b_tupT, b_sortD, b_sortN, isiD, c_lt, c_le, c_gt, c_ge, c_eqI, c_neI, c_inL, c_inT, c_ninL, c_ninT, c_inD, len_dictN, List.map_cons, List.map_nil, List.length_cons, List.length_nil, List.replicate_succ, List.replicate_zero, List.cons_append, List.nil_append, List.append_nil, List.getElem?_cons_zero, List.getElem?_cons_succ, List.set_cons_zero, List.set_cons_succ, Option.map_some, Option.map_none, Option.bind_some, Option.any_some, c_ne00]
      · obtain ⟨x, a', b', c', hx, hb', ep⟩ := pick_ok (P := P) n a b c hb ((List.range cells).filter Pd) c0 (by omega)
        have hx1 := List.mem_filter.mp hx
        have hx2 := List.mem_range.mp hx1.1
        have hx3 := hP1 x hx1.2
        have lf : found.length ≤ cells := by
          have := nodup_le nd fun y hy => List.mem_range.mpr (hf y hy)
          rw [List.length_range] at this
          exact this
        have ie : (nats ((List.range cells).filter Pd)).isEmpty = false := by
          cases q : (List.range cells).filter Pd with
          | nil => exact absurd q c0
          | cons _ _ => rfl
        rw [ie] at ne
        refine ⟨[some (.ln (pool a' b' c')), some (.fz (.int (side : Int))), some (.fz (.int (cells : Int))), some (.ow (.lst (nats (found ++ [x])))), some (.fz (.int (k : Int))), some (.fz (.lst (nats ((List.range cells).filter Pd)))), none, none], .inl ((seq_nx s5).trans ?_), a', b', c', found ++ [x], some (.fz (.int (k : Int))), some (.fz (.lst (nats ((List.range cells).filter Pd)))), hb', ?_, ?_, .inr ⟨_, rfl⟩, .inr ⟨_, rfl⟩, rfl⟩
        · have lm : (nats found).length < LIM := by rw [nats_length]; unfold LIM; omega
          simp [v_nil, v_cons, v_star, v_bor, v_lend, v_var, v_give, v_int, v_bl, v_non, v_str, v_glob, v_bin, v_neg, v_not, v_cmp, v_cmp2, v_and, v_or, v_ite, v_tup, v_lst, v_ix, v_sl, v_call, v_callK, v_bi, v_divmod, v_mt, v_app, v_isi, v_itP, v_itE, v_rev, v_dnil, v_dkv, v_dun, v_dds, w_skip, w_seq, w_ex, w_asg, w_par, w_ite, w_ret, w_retN, Ev.R.c1, Ev.R.ca, Ev.R.cl, Ev.R.co, Ev.R.ci, Ev.R.cf, Ev.R.fl, slot, rd, Ev.Slot.d, tests, truD, tk, tkAll, rdAll, tkFr, tkS1, tkSl, parG, ofOpt, asgT, Ev.T.count, asgG, Ev.asgG.asgGs, putS, runCall, lendOk, mems, argsOf, argOf, outsTo, outsOf, finish, walkOf, itemsD, needLock, lock, Ev.F.unlock, unlock, hide, testOf, permD, binD, intD, addD, itemD, setD, biD, b_lenL, b_lenT, nats_length, bInt, bList, b_tupL, b_tupT, b_sortD, b_sortN, isiD, c_lt, c_le, c_gt, c_ge, c_eqI, c_neI, c_inL, c_inT, c_ninL, c_ninT, c_inD, len_dictN, List.map_cons, List.map_nil, List.length_cons, List.length_nil, List.replicate_succ, List.replicate_zero, List.cons_append, List.nil_append, List.append_nil, List.getElem?_cons_zero, List.getElem?_cons_succ, List.set_cons_zero, List.set_cons_succ, Option.map_some, Option.map_none, Option.bind_some, Option.any_some, ne, ep, isLst, muD, nats_append]
          rw [nats_length] at lm
          simp [lm]
        · rw [List.nodup_append]
          exact ⟨nd, by simp, fun y hy z hz e => by rw [List.mem_singleton] at hz; subst hz; subst e; exact hx3 hy⟩
        · intro y hy
          rcases List.mem_append.mp hy with h | h
          · exact hf y h
          · rw [List.mem_singleton.mp h]; exact hx2
end K75
end

section
set_option Elab.async false
set_option linter.all false
set_option maxRecDepth 1000000
set_option maxHeartbeats 0
/-! ### three-sided boards: what is asked -/
namespace K75
open Ev
variable {P : Prog} [Has P] [Tab P]
theorem glob0 : P.glob[0]? = some (.int 4) := by rw [Has.glob]; rfl
theorem fn_check_number : P.fns[6]? = some f_check_number := by rw [Has.fns]; rfl
theorem number_ok (n : Nat) (v lo hi : Int) (h : lo ≤ v ∧ v ≤ hi) : callN P (n + 3) 6 [.fz (.int v), .fz (.int lo), .fz (.int hi)] = .ok false .non [] :=
  call_nx (ρ' := [some (.fz (.int v)), some (.fz (.int lo)), some (.fz (.int hi))]) fn_check_number rfl (by simp [f_check_number, v_nil, v_cons, v_star, v_bor, v_lend, v_var, v_give, v_int, v_bl, v_non, v_str, v_glob, v_bin, v_neg, v_not, v_cmp, v_cmp2, v_and, v_or, v_ite, v_tup, v_lst, v_ix, v_sl, v_call, v_callK, v_bi, v_divmod, v_mt, v_app, v_isi, v_itP, v_itE, v_rev, v_dnil, v_dkv, v_dun, v_dds, w_skip, w_seq, w_ex, w_asg, w_par, w_ite, w_ret, w_retN, Ev.R.c1, Ev.R.ca, Ev.R.cl, Ev.R.co, Ev.R.ci, Ev.R.cf, Ev.R.fl, slot, rd, Ev.Slot.d, tests, truD, tk, tkAll, rdAll, tkFr, tkS1, tkSl, parG, ofOpt, asgT, Ev.T.count, asgG, Ev.asgG.asgGs, putS, runCall, lendOk, mems, argsOf, argOf, outsTo, outsOf, finish, walkOf, itemsD, needLock, lock, Ev.F.unlock, unlock, hide, testOf, permD, binD, intD, addD, itemD, setD, biD, b_lenL, b_lenT, nats_length, bInt, bList, b_tupL, b_tupT, b_sortD, b_sortN, isiD, c_lt, c_le, c_gt, c_ge, c_eqI, c_neI, c_inL, c_inT, c_ninL, c_ninT, c_inD, len_dictN, List.map_cons, List.map_nil, List.length_cons, List.length_nil, List.replicate_succ, List.replicate_zero, List.cons_append, List.nil_append, List.append_nil, List.getElem?_cons_zero, List.getElem?_cons_succ, List.set_cons_zero, List.set_cons_succ, Option.map_some, Option.map_none, Option.bind_some, Option.any_some, between_ok, h]) (by simp [outsOf])
theorem fn_check_side : P.fns[18]? = some f_check_side := by rw [Has.fns]; rfl
theorem side_ok (n s : Nat) (h1 : 1 ≤ s) (h4 : s ≤ 4) : callN P (n + 4) 18 [.fz (.int (s : Int))] = .ok false .non [] := by
  have e := number_ok (P := P) n (s : Int) 1 4 (by omega)
  exact call_nx (ρ' := [some (.fz (.int (s : Int)))]) fn_check_side rfl (by simp [f_check_side, v_nil, v_cons, v_star, v_bor, v_lend, v_var, v_give, v_int, v_bl, v_non, v_str, v_glob, v_bin, v_neg, v_not, v_cmp, v_cmp2, v_and, v_or, v_ite, v_tup, v_lst, v_ix, v_sl, v_call, v_callK, v_bi, v_divmod, v_mt, v_app, v_isi, v_itP, v_itE, v_rev, v_dnil, v_dkv, v_dun, v_dds, w_skip, w_seq, w_ex, w_asg, w_par, w_ite, w_ret, w_retN, Ev.R.c1, Ev.R.ca, Ev.R.cl, Ev.R.co, Ev.R.ci, Ev.R.cf, Ev.R.fl, slot, rd, Ev.Slot.d, tests, truD, tk, tkAll, rdAll, tkFr, tkS1, tkSl, parG, ofOpt, asgT, Ev.T.count, asgG, Ev.asgG.asgGs, putS, runCall, lendOk, mems, argsOf, argOf, outsTo, outsOf, finish, walkOf, itemsD, needLock, lock, Ev.F.unlock, unlock, hide, testOf, permD, binD, intD, addD, itemD, setD, biD, b_lenL, b_lenT, nats_length, bInt, bList, b_tupL, b_tupT, b_sortD, b_sortN, isiD, c_lt, c_le, c_gt, c_ge, c_eqI, c_neI, c_inL, c_inT, c_ninL, c_ninT, c_inD, len_dictN, List.map_cons, List.map_nil, List.length_cons, List.length_nil, List.replicate_succ, List.replicate_zero, List.cons_append, List.nil_append, List.append_nil, List.getElem?_cons_zero, List.getElem?_cons_succ, List.set_cons_zero, List.set_cons_succ, Option.map_some, Option.map_none, Option.bind_some, Option.any_some, glob0, e]) (by simp [outsOf])
theorem fn_check_three_fill : P.fns[19]? = some f_check_three_fill := by rw [Has.fns]; rfl
theorem threeFill_ok (n s : Nat) (h1 : 1 ≤ s) (h4 : s ≤ 4) (lot : List Nat) (hu : Up lot) (hm : ∀ x ∈ lot, x < (plT s).length) : callN P (n + 5) 19 [.fz (.int (s : Int)), .fz (tup lot)] = .ok false .non [] := by
  have e1 := side_ok (P := P) n s h1 h4
  have e2 := wrong_ok (P := P) (n + 1) (plT s).length lot hu hm
  have e3 := Tab.cells (P := P) (n + 3) s h1 h4
  exact call_nx (ρ' := [some (.fz (.int (s : Int))), some (.fz (tup lot)), none]) fn_check_three_fill rfl ((seq_nx (ρ1 := [some (.fz (.int (s : Int))), some (.fz (tup lot)), none]) (by simp [f_check_three_fill, v_nil, v_cons, v_star, v_bor, v_lend, v_var, v_give, v_int, v_bl, v_non, v_str, v_glob, v_bin, v_neg, v_not, v_cmp, v_cmp2, v_and, v_or, v_ite, v_tup, v_lst, v_ix, v_sl, v_call, v_callK, v_bi, v_divmod, v_mt, v_app, v_isi, v_itP, v_itE, v_rev, v_dnil, v_dkv, v_dun, v_dds, w_skip, w_seq, w_ex, w_asg, w_par, w_ite, w_ret, w_retN, Ev.R.c1, Ev.R.ca, Ev.R.cl, Ev.R.co, Ev.R.ci, Ev.R.cf, Ev.R.fl, slot, rd, Ev.Slot.d, tests, truD, tk, tkAll, rdAll, tkFr, tkS1, tkSl, parG, ofOpt, asgT, Ev.T.count, asgG, Ev.asgG.asgGs, putS, runCall, lendOk, mems, argsOf, argOf, outsTo, outsOf, finish, walkOf, itemsD, needLock, lock, Ev.F.unlock, unlock, hide, testOf, permD, binD, intD, addD, itemD, setD, biD, b_lenL, b_lenT, nats_length, bInt, bList, b_tupL, b_tupT, b_sortD, b_sortN, isiD, c_lt, c_le, c_gt, c_ge, c_eqI, c_neI, c_inL, c_inT, c_ninL, c_ninT, c_inD, len_dictN, List.map_cons, List.map_nil, List.length_cons, List.length_nil, List.replicate_succ, List.replicate_zero, List.cons_append, List.nil_append, List.append_nil, List.getElem?_cons_zero, List.getElem?_cons_succ, List.set_cons_zero, List.set_cons_succ, Option.map_some, Option.map_none, Option.bind_some, Option.any_some, e1])).trans (loop_nx (l := []) (by simp [v_nil, v_cons, v_star, v_bor, v_lend, v_var, v_give, v_int, v_bl, v_non, v_str, v_glob, v_bin, v_neg, v_not, v_cmp, v_cmp2, v_and, v_or, v_ite, v_tup, v_lst, v_ix, v_sl, v_call, v_callK, v_bi, v_divmod, v_mt, v_app, v_isi, v_itP, v_itE, v_rev, v_dnil, v_dkv, v_dun, v_dds, w_skip, w_seq, w_ex, w_asg, w_par, w_ite, w_ret, w_retN, Ev.R.c1, Ev.R.ca, Ev.R.cl, Ev.R.co, Ev.R.ci, Ev.R.cf, Ev.R.fl, slot, rd, Ev.Slot.d, tests, truD, tk, tkAll, rdAll, tkFr, tkS1, tkSl, parG, ofOpt, asgT, Ev.T.count, asgG, Ev.asgG.asgGs, putS, runCall, lendOk, mems, argsOf, argOf, outsTo, outsOf, finish, walkOf, itemsD, needLock, lock, Ev.F.unlock, unlock, hide, testOf, permD, binD, intD, addD, itemD, setD, biD, b_lenL, b_lenT, nats_length, bInt, bList, b_tupL, b_tupT, b_sortD, b_sortN, isiD, c_lt, c_le, c_gt, c_ge, c_eqI, c_neI, c_inL, c_inT, c_ninL, c_ninT, c_inD, len_dictN, List.map_cons, List.map_nil, List.length_cons, List.length_nil, List.replicate_succ, List.replicate_zero, List.cons_append, List.nil_append, List.append_nil, List.getElem?_cons_zero, List.getElem?_cons_succ, List.set_cons_zero, List.set_cons_succ, Option.map_some, Option.map_none, Option.bind_some, Option.any_some, e2, e3]) rfl)) (by simp [outsOf])
theorem fn_meets_all_by : P.fns[17]? = some f_meets_all_by := by rw [Has.fns]; rfl
def meetsB (s : Nat) (lot : List Nat) : Bool := hangB (nbT s) lot && (sdT s).all fun z => lot.any fun x => decide (x ∈ z)
theorem lot_small {s : Nat} (h1 : 1 ≤ s) (h4 : s ≤ 4) {lot : List Nat} (hu : Up lot) (hm : ∀ x ∈ lot, x < (plT s).length) : lot.length ≤ 10 := by
  have := nodup_le (up_nodup hu) fun x hx => List.mem_range.mpr (hm x hx)
  rw [List.length_range] at this
  have := (nb_len h1 h4).2.1
  omega
theorem meetsBy_ok (n s : Nat) (h1 : 1 ≤ s) (h4 : s ≤ 4) (lot : List Nat) (hu : Up lot) (hm : ∀ x ∈ lot, x < (plT s).length) : callN P (n + 5) 17 [.fz (.int (s : Int)), .fz (tup lot)] = .ok false (.bl (meetsB s lot)) [] := by
  obtain ⟨k1, k2, k3, k4, k5, k6⟩ := nb_len h1 h4
  have hl := lot_small h1 h4 hu hm
  have e1 := Tab.all (P := P) n s h1 h4
  have e2 := Tab.sides (P := P) (n + 1) s h1 h4
  have e3 := wholePiece_ok (P := P) n (nbT s) (sdT s) lot (by omega) (fun x hx => by rw [k1]; exact hm x hx) (fun x hx => by have := List.all_eq_true.mp k6 x hx; simp at this; omega) (by omega) k4 (up_nodup hu)
  exact call_fz (ρ' := [some (.fz (.int (s : Int))), some (.fz (tup lot))]) fn_meets_all_by rfl (by simp [f_meets_all_by, v_nil, v_cons, v_star, v_bor, v_lend, v_var, v_give, v_int, v_bl, v_non, v_str, v_glob, v_bin, v_neg, v_not, v_cmp, v_cmp2, v_and, v_or, v_ite, v_tup, v_lst, v_ix, v_sl, v_call, v_callK, v_bi, v_divmod, v_mt, v_app, v_isi, v_itP, v_itE, v_rev, v_dnil, v_dkv, v_dun, v_dds, w_skip, w_seq, w_ex, w_asg, w_par, w_ite, w_ret, w_retN, Ev.R.c1, Ev.R.ca, Ev.R.cl, Ev.R.co, Ev.R.ci, Ev.R.cf, Ev.R.fl, slot, rd, Ev.Slot.d, tests, truD, tk, tkAll, rdAll, tkFr, tkS1, tkSl, parG, ofOpt, asgT, Ev.T.count, asgG, Ev.asgG.asgGs, putS, runCall, lendOk, mems, argsOf, argOf, outsTo, outsOf, finish, walkOf, itemsD, needLock, lock, Ev.F.unlock, unlock, hide, testOf, permD, binD, intD, addD, itemD, setD, biD, b_lenL, b_lenT, nats_length, bInt, bList, b_tupL, b_tupT, b_sortD, b_sortN, isiD, c_lt, c_le, c_gt, c_ge, c_eqI, c_neI, c_inL, c_inT, c_ninL, c_ninT, c_inD, len_dictN, List.map_cons, List.map_nil, List.length_cons, List.length_nil, List.replicate_succ, List.replicate_zero, List.cons_append, List.nil_append, List.append_nil, List.getElem?_cons_zero, List.getElem?_cons_succ, List.set_cons_zero, List.set_cons_succ, Option.map_some, Option.map_none, Option.bind_some, Option.any_some, e1, e2, e3, meetsB]) (by simp [outsOf])
theorem fn_meets_all : P.fns[22]? = some f_meets_all := by rw [Has.fns]; rfl
theorem meetsAll_ok (n s : Nat) (h1 : 1 ≤ s) (h4 : s ≤ 4) (lot : List Nat) (hu : Up lot) (hm : ∀ x ∈ lot, x < (plT s).length) : callN P (n + 6) 22 [.fz (.int (s : Int)), .fz (tup lot)] = .ok false (.bl (meetsB s lot)) [] := by
  have e1 := threeFill_ok (P := P) n s h1 h4 lot hu hm
  have e2 := meetsBy_ok (P := P) n s h1 h4 lot hu hm
  exact call_fz (ρ' := [some (.fz (.int (s : Int))), some (.fz (tup lot))]) fn_meets_all rfl ((seq_nx (ρ1 := [some (.fz (.int (s : Int))), some (.fz (tup lot))]) (by simp [f_meets_all, v_nil, v_cons, v_star, v_bor, v_lend, v_var, v_give, v_int, v_bl, v_non, v_str, v_glob, v_bin, v_neg, v_not, v_cmp, v_cmp2, v_and, v_or, v_ite, v_tup, v_lst, v_ix, v_sl, v_call, v_callK, v_bi, v_divmod, v_mt, v_app, v_isi, v_itP, v_itE, v_rev, v_dnil, v_dkv, v_dun, v_dds, w_skip, w_seq, w_ex, w_asg, w_par, w_ite, w_ret, w_retN, Ev.R.c1, Ev.R.ca, Ev.R.cl, Ev.R.co, Ev.R.ci, Ev.R.cf, Ev.R.fl, slot, rd, Ev.Slot.d, tests, truD, tk, tkAll, rdAll, tkFr, tkS1, tkSl, parG, ofOpt, asgT, Ev.T.count, asgG, Ev.asgG.asgGs, putS, runCall, lendOk, mems, argsOf, argOf, outsTo, outsOf, finish, walkOf, itemsD, needLock, lock, Ev.F.unlock, unlock, hide, testOf, permD, binD, intD, addD, itemD, setD, biD, b_lenL, b_lenT, nats_length, bInt, bList, b_tupL, b_tupT, b_sortD, b_sortN, isiD, c_lt, c_le, c_gt, c_ge, c_eqI, c_neI, c_inL, c_inT, c_ninL, c_ninT, c_inD, len_dictN, List.map_cons, List.map_nil, List.length_cons, List.length_nil, List.replicate_succ, List.replicate_zero, List.cons_append, List.nil_append, List.append_nil, List.getElem?_cons_zero, List.getElem?_cons_succ, List.set_cons_zero, List.set_cons_succ, Option.map_some, Option.map_none, Option.bind_some, Option.any_some, e1])).trans (by simp [v_nil, v_cons, v_star, v_bor, v_lend, v_var, v_give, v_int, v_bl, v_non, v_str, v_glob, v_bin, v_neg, v_not, v_cmp, v_cmp2, v_and, v_or, v_ite, v_tup, v_lst, v_ix, v_sl, v_call, v_callK, v_bi, v_divmod, v_mt, v_app, v_isi, v_itP, v_itE, v_rev, v_dnil, v_dkv, v_dun, v_dds, w_skip, w_seq, w_ex, w_asg, w_par, w_ite, w_ret, w_retN, Ev.R.c1, Ev.R.ca, Ev.R.cl, Ev.R.co, Ev.R.ci, Ev.R.cf, Ev.R.fl, slot, rd, Ev.Slot.d, tests, truD, tk, tkAll, rdAll, tkFr, tkS1, tkSl, parG, ofOpt, asgT, Ev.T.count, asgG, Ev.asgG.asgGs, putS, runCall, lendOk, mems, argsOf, argOf, outsTo, outsOf, finish, walkOf, itemsD, needLock, lock, Ev.F.unlock, unlock, hide, testOf, permD, binD, intD, addD, itemD, setD, biD, b_lenL, b_lenT, nats_length, bInt, bList, b_tupL, b_tupT, b_sortD, b_sortN, isiD, c_lt, c_le, c_gt, c_ge, c_eqI, c_neI, c_inL, c_inT, c_ninL, c_ninT, c_inD, len_dictN, List.map_cons, List.map_nil, List.length_cons, List.length_nil, List.replicate_succ, List.replicate_zero, List.cons_append, List.nil_append, List.append_nil, List.getElem?_cons_zero, List.getElem?_cons_succ, List.set_cons_zero, List.set_cons_succ, Option.map_some, Option.map_none, Option.bind_some, Option.any_some, e2])) (by simp [outsOf])
theorem fn_cells_of : P.fns[20]? = some f_cells_of := by rw [Has.fns]; rfl
theorem cellsOf_ok (n s : Nat) (h1 : 1 ≤ s) (h4 : s ≤ 4) : callN P (n + 5) 20 [.fz (.int (s : Int))] = .ok false (.int ((plT s).length : Nat)) [] := by
  have e1 := side_ok (P := P) n s h1 h4
  have e2 := Tab.cells (P := P) (n + 3) s h1 h4
  exact call_fz (ρ' := [some (.fz (.int (s : Int)))]) fn_cells_of rfl ((seq_nx (ρ1 := [some (.fz (.int (s : Int)))]) (by simp [f_cells_of, v_nil, v_cons, v_star, v_bor, v_lend, v_var, v_give, v_int, v_bl, v_non, v_str, v_glob, v_bin, v_neg, v_not, v_cmp, v_cmp2, v_and, v_or, v_ite, v_tup, v_lst, v_ix, v_sl, v_call, v_callK, v_bi, v_divmod, v_mt, v_app, v_isi, v_itP, v_itE, v_rev, v_dnil, v_dkv, v_dun, v_dds, w_skip, w_seq, w_ex, w_asg, w_par, w_ite, w_ret, w_retN, Ev.R.c1, Ev.R.ca, Ev.R.cl, Ev.R.co, Ev.R.ci, Ev.R.cf, Ev.R.fl, slot, rd, Ev.Slot.d, tests, truD, tk, tkAll, rdAll, tkFr, tkS1, tkSl, parG, ofOpt, asgT, Ev.T.count, asgG, Ev.asgG.asgGs, putS, runCall, lendOk, mems, argsOf, argOf, outsTo, outsOf, finish, walkOf, itemsD, needLock, lock, Ev.F.unlock, unlock, hide, testOf, permD, binD, intD, addD, itemD, setD, biD, b_lenL, b_lenT, nats_length, bInt, bList, b_tupL, b_tupT, b_sortD, b_sortN, isiD, c_lt, c_le, c_gt, c_ge, c_eqI, c_neI, c_inL, c_inT, c_ninL, c_ninT, c_inD, len_dictN, List.map_cons, List.map_nil, List.length_cons, List.length_nil, List.replicate_succ, List.replicate_zero, List.cons_append, List.nil_append, List.append_nil, List.getElem?_cons_zero, List.getElem?_cons_succ, List.set_cons_zero, List.set_cons_succ, Option.map_some, Option.map_none, Option.bind_some, Option.any_some, e1])).trans (by simp [v_nil, v_cons, v_star, v_bor, v_lend, v_var, v_give, v_int, v_bl, v_non, v_str, v_glob, v_bin, v_neg, v_not, v_cmp, v_cmp2, v_and, v_or, v_ite, v_tup, v_lst, v_ix, v_sl, v_call, v_callK, v_bi, v_divmod, v_mt, v_app, v_isi, v_itP, v_itE, v_rev, v_dnil, v_dkv, v_dun, v_dds, w_skip, w_seq, w_ex, w_asg, w_par, w_ite, w_ret, w_retN, Ev.R.c1, Ev.R.ca, Ev.R.cl, Ev.R.co, Ev.R.ci, Ev.R.cf, Ev.R.fl, slot, rd, Ev.Slot.d, tests, truD, tk, tkAll, rdAll, tkFr, tkS1, tkSl, parG, ofOpt, asgT, Ev.T.count, asgG, Ev.asgG.asgGs, putS, runCall, lendOk, mems, argsOf, argOf, outsTo, outsOf, finish, walkOf, itemsD, needLock, lock, Ev.F.unlock, unlock, hide, testOf, permD, binD, intD, addD, itemD, setD, biD, b_lenL, b_lenT, nats_length, bInt, bList, b_tupL, b_tupT, b_sortD, b_sortN, isiD, c_lt, c_le, c_gt, c_ge, c_eqI, c_neI, c_inL, c_inT, c_ninL, c_ninT, c_inD, len_dictN, List.map_cons, List.map_nil, List.length_cons, List.length_nil, List.replicate_succ, List.replicate_zero, List.cons_append, List.nil_append, List.append_nil, List.getElem?_cons_zero, List.getElem?_cons_succ, List.set_cons_zero, List.set_cons_succ, Option.map_some, Option.map_none, Option.bind_some, Option.any_some, e2])) (by simp [outsOf])
theorem fn_beside : P.fns[21]? = some f_beside := by rw [Has.fns]; rfl
theorem beside_ok (n s c : Nat) (h1 : 1 ≤ s) (h4 : s ≤ 4) (hc : c < (plT s).length) : callN P (n + 5) 21 [.fz (.int (s : Int)), .fz (.int (c : Int))] = .ok false (tup (nbOf (nbT s) c)) [] := by
  have e1 := side_ok (P := P) n s h1 h4
  have e2 := Tab.cells (P := P) (n + 3) s h1 h4
  have e3 := between_ok (P := P) (n + 2) (c : Int) 0 (((plT s).length : Nat) - 1 : Int)
  have e4 := Tab.by_ (P := P) (n + 1) s c (by rw [(nb_len h1 h4).1]; exact hc)
  have e5 : (0 : Int) ≤ (c : Int) ∧ (c : Int) ≤ ((plT s).length : Nat) - 1 := by omega
  exact call_fz (ρ' := [some (.fz (.int (s : Int))), some (.fz (.int (c : Int)))]) fn_beside rfl ((seq_nx (ρ1 := [some (.fz (.int (s : Int))), some (.fz (.int (c : Int)))]) (by simp [f_beside, v_nil, v_cons, v_star, v_bor, v_lend, v_var, v_give, v_int, v_bl, v_non, v_str, v_glob, v_bin, v_neg, v_not, v_cmp, v_cmp2, v_and, v_or, v_ite, v_tup, v_lst, v_ix, v_sl, v_call, v_callK, v_bi, v_divmod, v_mt, v_app, v_isi, v_itP, v_itE, v_rev, v_dnil, v_dkv, v_dun, v_dds, w_skip, w_seq, w_ex, w_asg, w_par, w_ite, w_ret, w_retN, Ev.R.c1, Ev.R.ca, Ev.R.cl, Ev.R.co, Ev.R.ci, Ev.R.cf, Ev.R.fl, slot, rd, Ev.Slot.d, tests, truD, tk, tkAll, rdAll, tkFr, tkS1, tkSl, parG, ofOpt, asgT, Ev.T.count, asgG, Ev.asgG.asgGs, putS, runCall, lendOk, mems, argsOf, argOf, outsTo, outsOf, finish, walkOf, itemsD, needLock, lock, Ev.F.unlock, unlock, hide, testOf, permD, binD, intD, addD, itemD, setD, biD, b_lenL, b_lenT, nats_length, bInt, bList, b_tupL, b_tupT, b_sortD, b_sortN, isiD, c_lt, c_le, c_gt, c_ge, c_eqI, c_neI, c_inL, c_inT, c_ninL, c_ninT, c_inD, len_dictN, List.map_cons, List.map_nil, List.length_cons, List.length_nil, List.replicate_succ, List.replicate_zero, List.cons_append, List.nil_append, List.append_nil, List.getElem?_cons_zero, List.getElem?_cons_succ, List.set_cons_zero, List.set_cons_succ, Option.map_some, Option.map_none, Option.bind_some, Option.any_some, e1])).trans ((seq_nx (ρ1 := [some (.fz (.int (s : Int))), some (.fz (.int (c : Int)))]) (by simp [v_nil, v_cons, v_star, v_bor, v_lend, v_var, v_give, v_int, v_bl, v_non, v_str, v_glob, v_bin, v_neg, v_not, v_cmp, v_cmp2, v_and, v_or, v_ite, v_tup, v_lst, v_ix, v_sl, v_call, v_callK, v_bi, v_divmod, v_mt, v_app, v_isi, v_itP, v_itE, v_rev, v_dnil, v_dkv, v_dun, v_dds, w_skip, w_seq, w_ex, w_asg, w_par, w_ite, w_ret, w_retN, Ev.R.c1, Ev.R.ca, Ev.R.cl, Ev.R.co, Ev.R.ci, Ev.R.cf, Ev.R.fl, slot, rd, Ev.Slot.d, tests, truD, tk, tkAll, rdAll, tkFr, tkS1, tkSl, parG, ofOpt, asgT, Ev.T.count, asgG, Ev.asgG.asgGs, putS, runCall, lendOk, mems, argsOf, argOf, outsTo, outsOf, finish, walkOf, itemsD, needLock, lock, Ev.F.unlock, unlock, hide, testOf, permD, binD, intD, addD, itemD, setD, biD, b_lenL, b_lenT, nats_length, bInt, bList, b_tupL, b_tupT, b_sortD, b_sortN, isiD, c_lt, c_le, c_gt, c_ge, c_eqI, c_neI, c_inL, c_inT, c_ninL, c_ninT, c_inD, len_dictN, List.map_cons, List.map_nil, List.length_cons, List.length_nil, List.replicate_succ, List.replicate_zero, List.cons_append, List.nil_append, List.append_nil, List.getElem?_cons_zero, List.getElem?_cons_succ, List.set_cons_zero, List.set_cons_succ, Option.map_some, Option.map_none, Option.bind_some, Option.any_some, e2, e3, e5])).trans (by simp [v_nil, v_cons, v_star, v_bor, v_lend, v_var, v_give, v_int, v_bl, v_non, v_str, v_glob, v_bin, v_neg, v_not, v_cmp, v_cmp2, v_and, v_or, v_ite, v_tup, v_lst, v_ix, v_sl, v_call, v_callK, v_bi, v_divmod, v_mt, v_app, v_isi, v_itP, v_itE, v_rev, v_dnil, v_dkv, v_dun, v_dds, w_skip, w_seq, w_ex, w_asg, w_par, w_ite, w_ret, w_retN, Ev.R.c1, Ev.R.ca, Ev.R.cl, Ev.R.co, Ev.R.ci, Ev.R.cf, Ev.R.fl, slot, rd, Ev.Slot.d, tests, truD, tk, tkAll, rdAll, tkFr, tkS1, tkSl, parG, ofOpt, asgT, Ev.T.count, asgG, Ev.asgG.asgGs, putS, runCall, lendOk, mems, argsOf, argOf, outsTo, outsOf, finish, walkOf, itemsD, needLock, lock, Ev.F.unlock, unlock, hide, testOf, permD, binD, intD, addD, itemD, setD, biD, b_lenL, b_lenT, nats_length, bInt, bList, b_tupL, b_tupT, b_sortD, b_sortN, isiD, c_lt, c_le, c_gt, c_ge, c_eqI, c_neI, c_inL, c_inT, c_ninL, c_ninT, c_inD, len_dictN, List.map_cons, List.map_nil, List.length_cons, List.length_nil, List.replicate_succ, List.replicate_zero, List.cons_append, List.nil_append, List.append_nil, List.getElem?_cons_zero, List.getElem?_cons_succ, List.set_cons_zero, List.set_cons_succ, Option.map_some, Option.map_none, Option.bind_some, Option.any_some, e4]))) (by simp [outsOf])

/-! ### the law's own: hangs, meets -/
theorem fn_law_hangs : P.fns[28]? = some f__law_hangs := by rw [Has.fns]; rfl
theorem spread_length (nb : List (List Nat)) (lot : List Nat) : ∀ (k : Nat) (here : List Nat), (spread nb lot k here).length ≤ here.length + k * lot.length
  | 0, here => by simp [spread]
  | k + 1, here => by
    have h1 := spread_length nb lot k (stepH nb lot here)
    have h2 : (stepH nb lot here).length ≤ here.length + lot.length := by
      unfold stepH
      rw [List.length_append]
      have := List.length_filter_le (fun c => !decide (c ∈ here) && (nbOf nb c).any fun e => decide (e ∈ here)) lot
      omega
    show (spread nb lot k (stepH nb lot here)).length ≤ _
    rw [Nat.add_mul]
    omega
theorem hangs_ok (n s : Nat) (h1 : 1 ≤ s) (h4 : s ≤ 4) (lot : List Nat) (hu : Up lot) (hm : ∀ x ∈ lot, x < (plT s).length) : callN P (n + 3) 28 [.fz (.int (s : Int)), .fz (tup lot)] = .ok false (.bl (hangB (nbT s) lot)) [] := by
  have hl := lot_small h1 h4 hu hm
  obtain ⟨k1, k2, k3, k4, k5, k6⟩ := nb_len h1 h4
  have lp := forGo_list (g := .nm 3 false) (body := fun ρ => evS ⟨callN P (n + 2), P.glob, P.rep⟩ P.fuel (.asg (.nm 2 false) (.bin .add (.var 2) (.lc (.nm 4 false) (.itP (.var 1)) (.and (.cmp (.var 4) (.link .notin (.var 2) .nil)) (.cmp (.lc (.nm 5 false) (.itP (.call 27 (.cons (.var 0) (.cons (.var 4) .nil)))) (.cmp (.var 5) (.link .isin (.var 2) .nil)) (.int 1) [5]) (.link .ne (.lst .nil) .nil))) (.var 4) [4]))) ρ)
    (fun k ρ => ∃ o : Option Slot, (o = none ∨ ∃ d, o = some (.fz d)) ∧ ρ = [some (.fz (.int (s : Int))), some (.fz (tup lot)), some (.fz (.lst (nats (spread (nbT s) lot k (lot.take 1))))), o, none, none])
    (nats (List.range lot.length)) [some (.fz (.int (s : Int))), some (.fz (tup lot)), some (.fz (.lst (nats (lot.take 1)))), none, none, none] ⟨none, .inl rfl, rfl⟩ (fun i x ρ hx ⟨o, ho, e⟩ => ?_)
  · obtain ⟨ρ', q1, o, ho, rfl⟩ := lp
    rw [nats_length, List.length_range] at q1
    have hs := spread_length (nbT s) lot lot.length (lot.take 1)
    have s1 : evS ⟨callN P (n + 2), P.glob, P.rep⟩ P.fuel (.asg (.nm 2 false) (.bi .list (.cons (.sl (.var 1) .nil (.int 1)) .nil))) [some (.fz (.int (s : Int))), some (.fz (tup lot)), none, none, none, none] = .nx [some (.fz (.int (s : Int))), some (.fz (tup lot)), some (.fz (.lst (nats (lot.take 1)))), none, none, none] := by
      have e : partOf (nats lot) none (some 1) = nats (lot.take 1) := by
        unfold partOf partD nats
        cases lot <;> simp
      simp [v_nil, v_cons, v_star, v_bor, v_lend, v_var, v_give, v_int, v_bl, v_non, v_str, v_glob, v_bin, v_neg, v_not, v_cmp, v_cmp2, v_and, v_or, v_ite, v_tup, v_lst, v_ix, v_sl, v_call, v_callK, v_bi, v_divmod, v_mt, v_app, v_isi, v_itP, v_itE, v_rev, v_dnil, v_dkv, v_dun, v_dds, w_skip, w_seq, w_ex, w_asg, w_par, w_ite, w_ret, w_retN, Ev.R.c1, Ev.R.ca, Ev.R.cl, Ev.R.co, Ev.R.ci, Ev.R.cf, Ev.R.fl, slot, rd, Ev.Slot.d, tests, truD, tk, tkAll, rdAll, tkFr, tkS1, tkSl, parG, ofOpt, asgT, Ev.T.count, asgG, Ev.asgG.asgGs, putS, runCall, lendOk, mems, argsOf, argOf, outsTo, outsOf, finish, walkOf, itemsD, needLock, lock, Ev.F.unlock, unlock, hide, testOf, permD, binD, intD, addD, itemD, setD, biD, b_lenL, b_lenT, nats_length, bInt, bList, b_tupL, b_tupT, b_sortD, b_sortN, isiD, c_lt, c_le, c_gt, c_ge, c_eqI, c_neI, c_inL, c_inT, c_ninL, c_ninT, c_inD, len_dictN, List.map_cons, List.map_nil, List.length_cons, List.length_nil, List.replicate_succ, List.replicate_zero, List.cons_append, List.nil_append, List.append_nil, List.getElem?_cons_zero, List.getElem?_cons_succ, List.set_cons_zero, List.set_cons_succ, Option.map_some, Option.map_none, Option.bind_some, Option.any_some, sliceD, tup, e]
    refine call_fz (ρ' := [some (.fz (.int (s : Int))), some (.fz (tup lot)), some (.fz (.lst (nats (spread (nbT s) lot lot.length (lot.take 1))))), o, none, none]) fn_law_hangs rfl ((seq_nx s1).trans ((seq_nx (loop_nx (itR1 (r := .fz (.int (lot.length : Nat))) (by simp [v_nil, v_cons, v_star, v_bor, v_lend, v_var, v_give, v_int, v_bl, v_non, v_str, v_glob, v_bin, v_neg, v_not, v_cmp, v_cmp2, v_and, v_or, v_ite, v_tup, v_lst, v_ix, v_sl, v_call, v_callK, v_bi, v_divmod, v_mt, v_app, v_isi, v_itP, v_itE, v_rev, v_dnil, v_dkv, v_dun, v_dds, w_skip, w_seq, w_ex, w_asg, w_par, w_ite, w_ret, w_retN, Ev.R.c1, Ev.R.ca, Ev.R.cl, Ev.R.co, Ev.R.ci, Ev.R.cf, Ev.R.fl, slot, rd, Ev.Slot.d, tests, truD, tk, tkAll, rdAll, tkFr, tkS1, tkSl, parG, ofOpt, asgT, Ev.T.count, asgG, Ev.asgG.asgGs, putS, runCall, lendOk, mems, argsOf, argOf, outsTo, outsOf, finish, walkOf, itemsD, needLock, lock, Ev.F.unlock, unlock, hide, testOf, permD, binD, intD, addD, itemD, setD, biD, b_lenL, b_lenT, nats_length, bInt, bList, b_tupL, b_tupT, b_sortD, b_sortN, isiD, c_lt, c_le, c_gt, c_ge, c_eqI, c_neI, c_inL, c_inT, c_ninL, c_ninT, c_inD, len_dictN, List.map_cons, List.map_nil, List.length_cons, List.length_nil, List.replicate_succ, List.replicate_zero, List.cons_append, List.nil_append, List.append_nil, List.getElem?_cons_zero, List.getElem?_cons_succ, List.set_cons_zero, List.set_cons_succ, Option.map_some, Option.map_none, Option.bind_some, Option.any_some, tup]) rfl (by omega)) q1)).trans ?_)) (by simp [outsOf])
    have e0 := c_neT (nats lot) (plainAll_nats 39 _)
    have e1 : (nats lot).isEmpty = lot.isEmpty := by cases lot <;> rfl
    rw [e1] at e0
    unfold hangB
    cases c : lot.isEmpty with
    | true =>
      rw [c] at e0
      simp [v_nil, v_cons, v_star, v_bor, v_lend, v_var, v_give, v_int, v_bl, v_non, v_str, v_glob, v_bin, v_neg, v_not, v_cmp, v_cmp2, v_and, v_or, v_ite, v_tup, v_lst, v_ix, v_sl, v_call, v_callK, v_bi, v_divmod, v_mt, v_app, v_isi, v_itP, v_itE, v_rev, v_dnil, v_dkv, v_dun, v_dds, w_skip, w_seq, w_ex, w_asg, w_par, w_ite, w_ret, w_retN, Ev.R.c1, Ev.R.ca, Ev.R.cl, Ev.R.co, Ev.R.ci, Ev.R.cf, Ev.R.fl, slot, rd, Ev.Slot.d, tests, truD, tk, tkAll, rdAll, tkFr, tkS1, tkSl, parG, ofOpt, asgT, Ev.T.count, asgG, Ev.asgG.asgGs, putS, runCall, lendOk, mems, argsOf, argOf, outsTo, outsOf, finish, walkOf, itemsD, needLock, lock, Ev.F.unlock, unlock, hide, testOf, permD, binD, intD, addD, itemD, setD, biD, b_lenL, b_lenT, nats_length, bInt, bList, b_tupL, b_tupT, b_sortD, b_sortN, isiD, c_lt, c_le, c_gt, c_ge, c_eqI, c_neI, c_inL, c_inT, c_ninL, c_ninT, c_inD, len_dictN, List.map_cons, List.map_nil, List.length_cons, List.length_nil, List.replicate_succ, List.replicate_zero, List.cons_append, List.nil_append, List.append_nil, List.getElem?_cons_zero, List.getElem?_cons_succ, List.set_cons_zero, List.set_cons_succ, Option.map_some, Option.map_none, Option.bind_some, Option.any_some, tup, e0]
    | false =>
      rw [c] at e0
      simp [v_nil, v_cons, v_star, v_bor, v_lend, v_var, v_give, v_int, v_bl, v_non, v_str, v_glob, v_bin, v_neg, v_not, v_cmp, v_cmp2, v_and, v_or, v_ite, v_tup, v_lst, v_ix, v_sl, v_call, v_callK, v_bi, v_divmod, v_mt, v_app, v_isi, v_itP, v_itE, v_rev, v_dnil, v_dkv, v_dun, v_dds, w_skip, w_seq, w_ex, w_asg, w_par, w_ite, w_ret, w_retN, Ev.R.c1, Ev.R.ca, Ev.R.cl, Ev.R.co, Ev.R.ci, Ev.R.cf, Ev.R.fl, slot, rd, Ev.Slot.d, tests, truD, tk, tkAll, rdAll, tkFr, tkS1, tkSl, parG, ofOpt, asgT, Ev.T.count, asgG, Ev.asgG.asgGs, putS, runCall, lendOk, mems, argsOf, argOf, outsTo, outsOf, finish, walkOf, itemsD, needLock, lock, Ev.F.unlock, unlock, hide, testOf, permD, binD, intD, addD, itemD, setD, biD, b_lenL, b_lenT, nats_length, bInt, bList, b_tupL, b_tupT, b_sortD, b_sortN, isiD, c_lt, c_le, c_gt, c_ge, c_eqI, c_neI, c_inL, c_inT, c_ninL, c_ninT, c_inD, len_dictN, List.map_cons, List.map_nil, List.length_cons, List.length_nil, List.replicate_succ, List.replicate_zero, List.cons_append, List.nil_append, List.append_nil, List.getElem?_cons_zero, List.getElem?_cons_succ, List.set_cons_zero, List.set_cons_succ, Option.map_some, Option.map_none, Option.bind_some, Option.any_some, tup, e0]
      omega
  · subst e
    rw [nats_get] at hx
    obtain ⟨k, hk, rfl⟩ := Option.map_eq_some_iff.mp hx
    have hi : i < lot.length := by have := (List.getElem?_eq_some_iff.mp hk).1; rw [List.length_range] at this; exact this
    refine ⟨[some (.fz (.int (s : Int))), some (.fz (tup lot)), some (.fz (.lst (nats (spread (nbT s) lot i (lot.take 1))))), some (.fz (.int (k : Int))), none, none], ?_, [some (.fz (.int (s : Int))), some (.fz (tup lot)), some (.fz (.lst (nats (spread (nbT s) lot (i + 1) (lot.take 1))))), some (.fz (.int (k : Int))), none, none], .inl ?_, some (.fz (.int (k : Int))), .inr ⟨_, rfl⟩, rfl⟩
    · rcases ho with rfl | ⟨d, rfl⟩ <;> simp [v_nil, v_cons, v_star, v_bor, v_lend, v_var, v_give, v_int, v_bl, v_non, v_str, v_glob, v_bin, v_neg, v_not, v_cmp, v_cmp2, v_and, v_or, v_ite, v_tup, v_lst, v_ix, v_sl, v_call, v_callK, v_bi, v_divmod, v_mt, v_app, v_isi, v_itP, v_itE, v_rev, v_dnil, v_dkv, v_dun, v_dds, w_skip, w_seq, w_ex, w_asg, w_par, w_ite, w_ret, w_retN, Ev.R.c1, Ev.R.ca, Ev.R.cl, Ev.R.co, Ev.R.ci, Ev.R.cf, Ev.R.fl, slot, rd, Ev.Slot.d, tests, truD, tk, tkAll, rdAll, tkFr, tkS1, tkSl, parG, ofOpt, asgT, Ev.T.count, asgG, Ev.asgG.asgGs, putS, runCall, lendOk, mems, argsOf, argOf, outsTo, outsOf, finish, walkOf, itemsD, needLock, lock, Ev.F.unlock, unlock, hide, testOf, permD, binD, intD, addD, itemD, setD, biD, b_lenL, b_lenT, nats_length, bInt, bList, b_tupL, b_tupT, b_sortD, b_sortN, isiD, c_lt, c_le, c_gt, c_ge, c_eqI, c_neI, c_inL, c_inT, c_ninL, c_ninT, c_inD, len_dictN, List.map_cons, List.map_nil, List.length_cons, List.length_nil, List.replicate_succ, List.replicate_zero, List.cons_append, List.nil_append, List.append_nil, List.getElem?_cons_zero, List.getElem?_cons_succ, List.set_cons_zero, List.set_cons_succ, Option.map_some, Option.map_none, Option.bind_some, Option.any_some]
    · have hlen := spread_length (nbT s) lot i (lot.take 1)
      have ht : (lot.take 1).length ≤ 1 := by rw [List.length_take]; omega
      rw [spread_succ]
      generalize spread (nbT s) lot i (lot.take 1) = here at hlen ⊢
      have e4 : ev ⟨callN P (n + 2), P.glob, P.rep⟩ (.lc (.nm 4 false) (.itP (.var 1)) (.and (.cmp (.var 4) (.link .notin (.var 2) .nil)) (.cmp (.lc (.nm 5 false) (.itP (.call 27 (.cons (.var 0) (.cons (.var 4) .nil)))) (.cmp (.var 5) (.link .isin (.var 2) .nil)) (.int 1) [5]) (.link .ne (.lst .nil) .nil))) (.var 4) [4]) [some (.fz (.int (s : Int))), some (.fz (tup lot)), some (.fz (.lst (nats here))), some (.fz (.int (k : Int))), none, none]
          = .ok (.fr (.lst (nats (lot.filter fun c => !decide (c ∈ here) && (nbOf (nbT s) c).any fun e => decide (e ∈ here))))) [some (.fz (.int (s : Int))), some (.fz (tup lot)), some (.fz (.lst (nats here))), some (.fz (.int (k : Int))), none, none] := by
        refine (lc_is (T := fun k : Nat => D.int (k : Int)) (b := fun c => !decide (c ∈ here) && (nbOf (nbT s) c).any fun e => decide (e ∈ here)) (f := fun k : Nat => D.int (k : Int)) (l := lot) (by simp [v_nil, v_cons, v_star, v_bor, v_lend, v_var, v_give, v_int, v_bl, v_non, v_str, v_glob, v_bin, v_neg, v_not, v_cmp, v_cmp2, v_and, v_or, v_ite, v_tup, v_lst, v_ix, v_sl, v_call, v_callK, v_bi, v_divmod, v_mt, v_app, v_isi, v_itP, v_itE, v_rev, v_dnil, v_dkv, v_dun, v_dds, w_skip, w_seq, w_ex, w_asg, w_par, w_ite, w_ret, w_retN, Ev.R.c1, Ev.R.ca, Ev.R.cl, Ev.R.co, Ev.R.ci, Ev.R.cf, Ev.R.fl, slot, rd, Ev.Slot.d, tests, truD, tk, tkAll, rdAll, tkFr, tkS1, tkSl, parG, ofOpt, asgT, Ev.T.count, asgG, Ev.asgG.asgGs, putS, runCall, lendOk, mems, argsOf, argOf, outsTo, outsOf, finish, walkOf, itemsD, needLock, lock, Ev.F.unlock, unlock, hide, testOf, permD, binD, intD, addD, itemD, setD, biD, b_lenL, b_lenT, nats_length, bInt, bList, b_tupL, b_tupT, b_sortD, b_sortN, isiD, c_lt, c_le, c_gt, c_ge, c_eqI, c_neI, c_inL, c_inT, c_ninL, c_ninT, c_inD, len_dictN, List.map_cons, List.map_nil, List.length_cons, List.length_nil, List.replicate_succ, List.replicate_zero, List.cons_append, List.nil_append, List.append_nil, List.getElem?_cons_zero, List.getElem?_cons_succ, List.set_cons_zero, List.set_cons_succ, Option.map_some, Option.map_none, Option.bind_some, Option.any_some, tup, nats]) (fun x hx => ⟨[some (.fz (.int (s : Int))), some (.fz (tup lot)), some (.fz (.lst (nats here))), some (.fz (.int (k : Int))), some (.fz (.int (x : Int))), none], rfl, rfl, ?_, fun _ => by simp [Is, v_nil, v_cons, v_star, v_bor, v_lend, v_var, v_give, v_int, v_bl, v_non, v_str, v_glob, v_bin, v_neg, v_not, v_cmp, v_cmp2, v_and, v_or, v_ite, v_tup, v_lst, v_ix, v_sl, v_call, v_callK, v_bi, v_divmod, v_mt, v_app, v_isi, v_itP, v_itE, v_rev, v_dnil, v_dkv, v_dun, v_dds, w_skip, w_seq, w_ex, w_asg, w_par, w_ite, w_ret, w_retN, Ev.R.c1, Ev.R.ca, Ev.R.cl, Ev.R.co, Ev.R.ci, Ev.R.cf, Ev.R.fl, slot, rd, Ev.Slot.d, tests, truD, tk, tkAll, rdAll, tkFr, tkS1, tkSl, parG, ofOpt, asgT, Ev.T.count, asgG, Ev.asgG.asgGs, putS, runCall, lendOk, mems, argsOf, argOf, outsTo, outsOf, finish, walkOf, itemsD, needLock, lock, Ev.F.unlock, unlock, hide, testOf, permD, binD, intD, addD, itemD, setD, biD, b_lenL, b_lenT, nats_length, bInt, bList, b_tupL, b_tupT, b_sortD, b_sortN, isiD, c_lt, c_le, c_gt, c_ge, c_eqI, c_neI, c_inL, c_inT, c_ninL, c_ninT, c_inD, len_dictN, List.map_cons, List.map_nil, List.length_cons, List.length_nil, List.replicate_succ, List.replicate_zero, List.cons_append, List.nil_append, List.append_nil, List.getElem?_cons_zero, List.getElem?_cons_succ, List.set_cons_zero, List.set_cons_succ, Option.map_some, Option.map_none, Option.bind_some, Option.any_some]⟩) (by unfold LIM; omega)).trans rfl
        have hx' : x < (nbT s).length := by rw [k1]; exact hm x hx
        have e5 : ev ⟨callN P (n + 2), P.glob, P.rep⟩ (.lc (.nm 5 false) (.itP (.call 27 (.cons (.var 0) (.cons (.var 4) .nil)))) (.cmp (.var 5) (.link .isin (.var 2) .nil)) (.int 1) [5]) [some (.fz (.int (s : Int))), some (.fz (tup lot)), some (.fz (.lst (nats here))), some (.fz (.int (k : Int))), some (.fz (.int (x : Int))), none]
            = .ok (.fr (.lst (((nbOf (nbT s) x).filter fun e => decide (e ∈ here)).map fun _ => .int 1))) [some (.fz (.int (s : Int))), some (.fz (tup lot)), some (.fz (.lst (nats here))), some (.fz (.int (k : Int))), some (.fz (.int (x : Int))), none] := by
          refine lc_is (T := fun k : Nat => D.int (k : Int)) (b := fun e => decide (e ∈ here)) (f := fun _ => .int 1) (l := nbOf (nbT s) x) ?_ (fun y hy => ⟨[some (.fz (.int (s : Int))), some (.fz (tup lot)), some (.fz (.lst (nats here))), some (.fz (.int (k : Int))), some (.fz (.int (x : Int))), some (.fz (.int (y : Int)))], rfl, rfl, by simp [Is, v_nil, v_cons, v_star, v_bor, v_lend, v_var, v_give, v_int, v_bl, v_non, v_str, v_glob, v_bin, v_neg, v_not, v_cmp, v_cmp2, v_and, v_or, v_ite, v_tup, v_lst, v_ix, v_sl, v_call, v_callK, v_bi, v_divmod, v_mt, v_app, v_isi, v_itP, v_itE, v_rev, v_dnil, v_dkv, v_dun, v_dds, w_skip, w_seq, w_ex, w_asg, w_par, w_ite, w_ret, w_retN, Ev.R.c1, Ev.R.ca, Ev.R.cl, Ev.R.co, Ev.R.ci, Ev.R.cf, Ev.R.fl, slot, rd, Ev.Slot.d, tests, truD, tk, tkAll, rdAll, tkFr, tkS1, tkSl, parG, ofOpt, asgT, Ev.T.count, asgG, Ev.asgG.asgGs, putS, runCall, lendOk, mems, argsOf, argOf, outsTo, outsOf, finish, walkOf, itemsD, needLock, lock, Ev.F.unlock, unlock, hide, testOf, permD, binD, intD, addD, itemD, setD, biD, b_lenL, b_lenT, nats_length, bInt, bList, b_tupL, b_tupT, b_sortD, b_sortN, isiD, c_lt, c_le, c_gt, c_ge, c_eqI, c_neI, c_inL, c_inT, c_ninL, c_ninT, c_inD, len_dictN, List.map_cons, List.map_nil, List.length_cons, List.length_nil, List.replicate_succ, List.replicate_zero, List.cons_append, List.nil_append, List.append_nil, List.getElem?_cons_zero, List.getElem?_cons_succ, List.set_cons_zero, List.set_cons_succ, Option.map_some, Option.map_none, Option.bind_some, Option.any_some], fun _ => by simp [Is, v_nil, v_cons, v_star, v_bor, v_lend, v_var, v_give, v_int, v_bl, v_non, v_str, v_glob, v_bin, v_neg, v_not, v_cmp, v_cmp2, v_and, v_or, v_ite, v_tup, v_lst, v_ix, v_sl, v_call, v_callK, v_bi, v_divmod, v_mt, v_app, v_isi, v_itP, v_itE, v_rev, v_dnil, v_dkv, v_dun, v_dds, w_skip, w_seq, w_ex, w_asg, w_par, w_ite, w_ret, w_retN, Ev.R.c1, Ev.R.ca, Ev.R.cl, Ev.R.co, Ev.R.ci, Ev.R.cf, Ev.R.fl, slot, rd, Ev.Slot.d, tests, truD, tk, tkAll, rdAll, tkFr, tkS1, tkSl, parG, ofOpt, asgT, Ev.T.count, asgG, Ev.asgG.asgGs, putS, runCall, lendOk, mems, argsOf, argOf, outsTo, outsOf, finish, walkOf, itemsD, needLock, lock, Ev.F.unlock, unlock, hide, testOf, permD, binD, intD, addD, itemD, setD, biD, b_lenL, b_lenT, nats_length, bInt, bList, b_tupL, b_tupT, b_sortD, b_sortN, isiD, c_lt, c_le, c_gt, c_ge, c_eqI, c_neI, c_inL, c_inT, c_ninL, c_ninT, c_inD, len_dictN, List.map_cons, List.map_nil, List.length_cons, List.length_nil, List.replicate_succ, List.replicate_zero, List.cons_append, List.nil_append, List.append_nil, List.getElem?_cons_zero, List.getElem?_cons_succ, List.set_cons_zero, List.set_cons_succ, Option.map_some, Option.map_none, Option.bind_some, Option.any_some]⟩) ?_
          · simp [v_nil, v_cons, v_star, v_bor, v_lend, v_var, v_give, v_int, v_bl, v_non, v_str, v_glob, v_bin, v_neg, v_not, v_cmp, v_cmp2, v_and, v_or, v_ite, v_tup, v_lst, v_ix, v_sl, v_call, v_callK, v_bi, v_divmod, v_mt, v_app, v_isi, v_itP, v_itE, v_rev, v_dnil, v_dkv, v_dun, v_dds, w_skip, w_seq, w_ex, w_asg, w_par, w_ite, w_ret, w_retN, Ev.R.c1, Ev.R.ca, Ev.R.cl, Ev.R.co, Ev.R.ci, Ev.R.cf, Ev.R.fl, slot, rd, Ev.Slot.d, tests, truD, tk, tkAll, rdAll, tkFr, tkS1, tkSl, parG, ofOpt, asgT, Ev.T.count, asgG, Ev.asgG.asgGs, putS, runCall, lendOk, mems, argsOf, argOf, outsTo, outsOf, finish, walkOf, itemsD, needLock, lock, Ev.F.unlock, unlock, hide, testOf, permD, binD, intD, addD, itemD, setD, biD, b_lenL, b_lenT, nats_length, bInt, bList, b_tupL, b_tupT, b_sortD, b_sortN, isiD, c_lt, c_le, c_gt, c_ge, c_eqI, c_neI, c_inL, c_inT, c_ninL, c_ninT, c_inD, len_dictN, List.map_cons, List.map_nil, List.length_cons, List.length_nil, List.replicate_succ, List.replicate_zero, List.cons_append, List.nil_append, List.append_nil, List.getElem?_cons_zero, List.getElem?_cons_succ, List.set_cons_zero, List.set_cons_succ, Option.map_some, Option.map_none, Option.bind_some, Option.any_some, Tab.near (P := P) n s x hx', tup, nats]
          · unfold nbOf
            rw [List.getD_eq_getElem?_getD, List.getElem?_eq_getElem hx']
            have := List.all_eq_true.mp k6 _ (List.getElem_mem hx')
            simp at this
            show (nbT s)[x].length ≤ LIM
            unfold LIM; omega
        have e6 := c_neL (((nbOf (nbT s) x).filter fun e => decide (e ∈ here)).map fun _ => D.int 1) (plainAll_map 39 _ _ fun _ _ => rfl)
        have e7 : (!(((nbOf (nbT s) x).filter fun e => decide (e ∈ here)).map fun _ => D.int 1).isEmpty) = (nbOf (nbT s) x).any fun e => decide (e ∈ here) := by
          induction nbOf (nbT s) x with
          | nil => rfl
          | cons y r ih =>
            rw [List.filter_cons, List.any_cons]
            by_cases q : y ∈ here
            · simp [q]
            · simp only [q, decide_false, Bool.false_or]
              exact ih
        rw [e7] at e6
        by_cases c1 : x ∈ here
        · simp [Is, v_nil, v_cons, v_star, v_bor, v_lend, v_var, v_give, v_int, v_bl, v_non, v_str, v_glob, v_bin, v_neg, v_not, v_cmp, v_cmp2, v_and, v_or, v_ite, v_tup, v_lst, v_ix, v_sl, v_call, v_callK, v_bi, v_divmod, v_mt, v_app, v_isi, v_itP, v_itE, v_rev, v_dnil, v_dkv, v_dun, v_dds, w_skip, w_seq, w_ex, w_asg, w_par, w_ite, w_ret, w_retN, Ev.R.c1, Ev.R.ca, Ev.R.cl, Ev.R.co, Ev.R.ci, Ev.R.cf, Ev.R.fl, slot, rd, Ev.Slot.d, tests, truD, tk, tkAll, rdAll, tkFr, tkS1, tkSl, parG, ofOpt, asgT, Ev.T.count, asgG, Ev.asgG.asgGs, putS, runCall, lendOk, mems, argsOf, argOf, outsTo, outsOf, finish, walkOf, itemsD, needLock, lock, Ev.F.unlock, unlock, hide, testOf, permD, binD, intD, addD, itemD, setD, biD, b_lenL, b_lenT, nats_length, bInt, bList, b_tupL, b_tupT, b_sortD, b_sortN, isiD, c_lt, c_le, c_gt, c_ge, c_eqI, c_neI, c_inL, c_inT, c_ninL, c_ninT, c_inD, len_dictN, List.map_cons, List.map_nil, List.length_cons, List.length_nil, List.replicate_succ, List.replicate_zero, List.cons_append, List.nil_append, List.append_nil, List.getElem?_cons_zero, List.getElem?_cons_succ, List.set_cons_zero, List.set_cons_succ, Option.map_some, Option.map_none, Option.bind_some, Option.any_some, c1]
        · simp [Is, v_nil, v_cons, v_star, v_bor, v_lend, v_var, v_give, v_int, v_bl, v_non, v_str, v_glob, v_bin, v_neg, v_not, v_cmp, v_cmp2, v_and, v_or, v_ite, v_tup, v_lst, v_ix, v_sl, v_call, v_callK, v_bi, v_divmod, v_mt, v_app, v_isi, v_itP, v_itE, v_rev, v_dnil, v_dkv, v_dun, v_dds, w_skip, w_seq, w_ex, w_asg, w_par, w_ite, w_ret, w_retN, Ev.R.c1, Ev.R.ca, Ev.R.cl, Ev.R.co, Ev.R.ci, Ev.R.cf, Ev.R.fl, slot, rd, Ev.Slot.d, tests, truD, tk, tkAll, rdAll, tkFr, tkS1, tkSl, parG, ofOpt, asgT, Ev.T.count, asgG, Ev.asgG.asgGs, putS, runCall, lendOk, mems, argsOf, argOf, outsTo, outsOf, finish, walkOf, itemsD, needLock, lock, Ev.F.unlock, unlock, hide, testOf, permD, binD, intD, addD, itemD, setD, biD, b_lenL, b_lenT, nats_length, bInt, bList, b_tupL, b_tupT, b_sortD, b_sortN, isiD, c_lt, c_le, c_gt, c_ge, c_eqI, c_neI, c_inL, c_inT, c_ninL, c_ninT, c_inD, len_dictN, List.map_cons, List.map_nil, List.length_cons, List.length_nil, List.replicate_succ, List.replicate_zero, List.cons_append, List.nil_append, List.append_nil, List.getElem?_cons_zero, List.getElem?_cons_succ, List.set_cons_zero, List.set_cons_succ, Option.map_some, Option.map_none, Option.bind_some, Option.any_some, c1, e5, e6]
      have l1 := List.length_filter_le (fun c => !decide (c ∈ here) && (nbOf (nbT s) c).any fun e => decide (e ∈ here)) lot
      have l0 : i * lot.length ≤ 100 := Nat.le_trans (Nat.mul_le_mul (show i ≤ 10 by omega) hl) (by omega)
      have l2 : here.length + (lot.filter fun c => !decide (c ∈ here) && (nbOf (nbT s) c).any fun e => decide (e ∈ here)).length ≤ LIM := by unfold LIM; omega
      simp [v_nil, v_cons, v_star, v_bor, v_lend, v_var, v_give, v_int, v_bl, v_non, v_str, v_glob, v_bin, v_neg, v_not, v_cmp, v_cmp2, v_and, v_or, v_ite, v_tup, v_lst, v_ix, v_sl, v_call, v_callK, v_bi, v_divmod, v_mt, v_app, v_isi, v_itP, v_itE, v_rev, v_dnil, v_dkv, v_dun, v_dds, w_skip, w_seq, w_ex, w_asg, w_par, w_ite, w_ret, w_retN, Ev.R.c1, Ev.R.ca, Ev.R.cl, Ev.R.co, Ev.R.ci, Ev.R.cf, Ev.R.fl, slot, rd, Ev.Slot.d, tests, truD, tk, tkAll, rdAll, tkFr, tkS1, tkSl, parG, ofOpt, asgT, Ev.T.count, asgG, Ev.asgG.asgGs, putS, runCall, lendOk, mems, argsOf, argOf, outsTo, outsOf, finish, walkOf, itemsD, needLock, lock, Ev.F.unlock, unlock, hide, testOf, permD, binD, intD, addD, itemD, setD, biD, b_lenL, b_lenT, nats_length, bInt, bList, b_tupL, b_tupT, b_sortD, b_sortN, isiD, c_lt, c_le, c_gt, c_ge, c_eqI, c_neI, c_inL, c_inT, c_ninL, c_ninT, c_inD, len_dictN, List.map_cons, List.map_nil, List.length_cons, List.length_nil, List.replicate_succ, List.replicate_zero, List.cons_append, List.nil_append, List.append_nil, List.getElem?_cons_zero, List.getElem?_cons_succ, List.set_cons_zero, List.set_cons_succ, Option.map_some, Option.map_none, Option.bind_some, Option.any_some, e4, l2, stepH, nats_append]
end K75
end

section
set_option Elab.async false
set_option linter.all false
set_option maxRecDepth 1000000
set_option maxHeartbeats 0
/-! ### law k75 -/
namespace K75
open Ev
variable {P : Prog} [Has P] [Tab P]
def plOf (s x : Nat) : Nat × Nat := (plT s).getD x (0, 0)
def meetsL (s : Nat) (lot : List Nat) : Bool := (lot.any fun x => decide ((plOf s x).2 = 0)) && ((lot.any fun x => decide ((plOf s x).2 = (plOf s x).1)) && (lot.any fun x => decide ((plOf s x).1 + 1 = s)))
theorem fn_law_meets : P.fns[29]? = some f__law_meets := by rw [Has.fns]; rfl
theorem lawMeets_ok (n s : Nat) (h1 : 1 ≤ s) (h4 : s ≤ 4) (lot : List Nat) (hu : Up lot) (hm : ∀ x ∈ lot, x < (plT s).length) : callN P (n + 2) 29 [.fz (.int (s : Int)), .fz (tup lot)] = .ok false (.bl (meetsL s lot)) [] := by
  have hl := lot_small h1 h4 hu hm
  have e1 := Tab.places (P := P) n s h1 h4
  have e2 : ev ⟨callN P (n + 1), P.glob, P.rep⟩ (.lc (.nm 4 false) (.itP (.var 1)) (.bl true) (.ix (.var 2) (.var 4)) [4]) [some (.fz (.int (s : Int))), some (.fz (tup lot)), some (.fz (prs (plT s))), none, none, none, none]
      = .ok (.fr (.lst (lot.map fun x => pr (plOf s x)))) [some (.fz (.int (s : Int))), some (.fz (tup lot)), some (.fz (prs (plT s))), none, none, none, none] := by
    refine (lc_is (T := fun k : Nat => D.int (k : Int)) (b := fun _ => true) (f := fun x => pr (plOf s x)) (l := lot) (by simp [v_nil, v_cons, v_star, v_bor, v_lend, v_var, v_give, v_int, v_bl, v_non, v_str, v_glob, v_bin, v_neg, v_not, v_cmp, v_cmp2, v_and, v_or, v_ite, v_tup, v_lst, v_ix, v_sl, v_call, v_callK, v_bi, v_divmod, v_mt, v_app, v_isi, v_itP, v_itE, v_rev, v_dnil, v_dkv, v_dun, v_dds, w_skip, w_seq, w_ex, w_asg, w_par, w_ite, w_ret, w_retN, Ev.R.c1, Ev.R.ca, Ev.R.cl, Ev.R.co, Ev.R.ci, Ev.R.cf, Ev.R.fl, slot, rd, Ev.Slot.d, tests, truD, tk, tkAll, rdAll, tkFr, tkS1, tkSl, parG, ofOpt, asgT, Ev.T.count, asgG, Ev.asgG.asgGs, putS, runCall, lendOk, mems, argsOf, argOf, outsTo, outsOf, finish, walkOf, itemsD, needLock, lock, Ev.F.unlock, unlock, hide, testOf, permD, binD, intD, addD, itemD, setD, biD, b_lenL, b_lenT, nats_length, bInt, bList, b_tupL, b_tupT, b_sortD, b_sortN, isiD, c_lt, c_le, c_gt, c_ge, c_eqI, c_neI, c_inL, c_inT, c_ninL, c_ninT, c_inD, len_dictN, List.map_cons, List.map_nil, List.length_cons, List.length_nil, List.replicate_succ, List.replicate_zero, List.cons_append, List.nil_append, List.append_nil, List.getElem?_cons_zero, List.getElem?_cons_succ, List.set_cons_zero, List.set_cons_succ, Option.map_some, Option.map_none, Option.bind_some, Option.any_some, tup, nats]) (fun x hx => ⟨[some (.fz (.int (s : Int))), some (.fz (tup lot)), some (.fz (prs (plT s))), none, some (.fz (.int (x : Int))), none, none], rfl, rfl, by simp [Is, v_nil, v_cons, v_star, v_bor, v_lend, v_var, v_give, v_int, v_bl, v_non, v_str, v_glob, v_bin, v_neg, v_not, v_cmp, v_cmp2, v_and, v_or, v_ite, v_tup, v_lst, v_ix, v_sl, v_call, v_callK, v_bi, v_divmod, v_mt, v_app, v_isi, v_itP, v_itE, v_rev, v_dnil, v_dkv, v_dun, v_dds, w_skip, w_seq, w_ex, w_asg, w_par, w_ite, w_ret, w_retN, Ev.R.c1, Ev.R.ca, Ev.R.cl, Ev.R.co, Ev.R.ci, Ev.R.cf, Ev.R.fl, slot, rd, Ev.Slot.d, tests, truD, tk, tkAll, rdAll, tkFr, tkS1, tkSl, parG, ofOpt, asgT, Ev.T.count, asgG, Ev.asgG.asgGs, putS, runCall, lendOk, mems, argsOf, argOf, outsTo, outsOf, finish, walkOf, itemsD, needLock, lock, Ev.F.unlock, unlock, hide, testOf, permD, binD, intD, addD, itemD, setD, biD, b_lenL, b_lenT, nats_length, bInt, bList, b_tupL, b_tupT, b_sortD, b_sortN, isiD, c_lt, c_le, c_gt, c_ge, c_eqI, c_neI, c_inL, c_inT, c_ninL, c_ninT, c_inD, len_dictN, List.map_cons, List.map_nil, List.length_cons, List.length_nil, List.replicate_succ, List.replicate_zero, List.cons_append, List.nil_append, List.append_nil, List.getElem?_cons_zero, List.getElem?_cons_succ, List.set_cons_zero, List.set_cons_succ, Option.map_some, Option.map_none, Option.bind_some, Option.any_some], fun _ => ?_⟩) (by unfold LIM; omega)).trans (by rw [filter_yes])
    have hx' := hm x hx
    have e : ((plT s).map pr)[x]? = some (pr (plOf s x)) := by
      rw [List.getElem?_map, List.getElem?_eq_getElem hx']
      unfold plOf
      rw [List.getD_eq_getElem?_getD, List.getElem?_eq_getElem hx']
      rfl
    have el : ixD ((plT s).map pr).length (x : Int) = some x := ix_nat (by rw [List.length_map]; exact hx')
    simp only [List.length_map] at el
    rw [List.getElem?_map] at e
    simp [Is, v_nil, v_cons, v_star, v_bor, v_lend, v_var, v_give, v_int, v_bl, v_non, v_str, v_glob, v_bin, v_neg, v_not, v_cmp, v_cmp2, v_and, v_or, v_ite, v_tup, v_lst, v_ix, v_sl, v_call, v_callK, v_bi, v_divmod, v_mt, v_app, v_isi, v_itP, v_itE, v_rev, v_dnil, v_dkv, v_dun, v_dds, w_skip, w_seq, w_ex, w_asg, w_par, w_ite, w_ret, w_retN, Ev.R.c1, Ev.R.ca, Ev.R.cl, Ev.R.co, Ev.R.ci, Ev.R.cf, Ev.R.fl, slot, rd, Ev.Slot.d, tests, truD, tk, tkAll, rdAll, tkFr, tkS1, tkSl, parG, ofOpt, asgT, Ev.T.count, asgG, Ev.asgG.asgGs, putS, runCall, lendOk, mems, argsOf, argOf, outsTo, outsOf, finish, walkOf, itemsD, needLock, lock, Ev.F.unlock, unlock, hide, testOf, permD, binD, intD, addD, itemD, setD, biD, b_lenL, b_lenT, nats_length, bInt, bList, b_tupL, b_tupT, b_sortD, b_sortN, isiD, c_lt, c_le, c_gt, c_ge, c_eqI, c_neI, c_inL, c_inT, c_ninL, c_ninT, c_inD, len_dictN, List.map_cons, List.map_nil, List.length_cons, List.length_nil, List.replicate_succ, List.replicate_zero, List.cons_append, List.nil_append, List.append_nil, List.getElem?_cons_zero, List.getElem?_cons_succ, List.set_cons_zero, List.set_cons_succ, Option.map_some, Option.map_none, Option.bind_some, Option.any_some, prs, el, e]
  have key : ∀ (E : Ev.E) (b : Nat → Bool), (∀ x ∈ lot, Is ⟨callN P (n + 1), P.glob, P.rep⟩ E [some (.fz (.int (s : Int))), some (.fz (tup lot)), some (.fz (prs (plT s))), some (.fz (.lst (lot.map fun x => pr (plOf s x)))), none, some (.fz (.int ((plOf s x).1 : Int))), some (.fz (.int ((plOf s x).2 : Int)))] (.bl (b x))) →
      ev ⟨callN P (n + 1), P.glob, P.rep⟩ (.lc (.tup (.cons (.nm 5 false) (.cons (.nm 6 false) .nil))) (.itP (.var 3)) E (.int 1) [5, 6]) [some (.fz (.int (s : Int))), some (.fz (tup lot)), some (.fz (prs (plT s))), some (.fz (.lst (lot.map fun x => pr (plOf s x)))), none, none, none]
      = .ok (.fr (.lst ((lot.filter b).map fun _ => .int 1))) [some (.fz (.int (s : Int))), some (.fz (tup lot)), some (.fz (prs (plT s))), some (.fz (.lst (lot.map fun x => pr (plOf s x)))), none, none, none] := fun E b h =>
    lc_is (T := fun x => pr (plOf s x)) (b := b) (f := fun _ => .int 1) (l := lot) (by simp [v_nil, v_cons, v_star, v_bor, v_lend, v_var, v_give, v_int, v_bl, v_non, v_str, v_glob, v_bin, v_neg, v_not, v_cmp, v_cmp2, v_and, v_or, v_ite, v_tup, v_lst, v_ix, v_sl, v_call, v_callK, v_bi, v_divmod, v_mt, v_app, v_isi, v_itP, v_itE, v_rev, v_dnil, v_dkv, v_dun, v_dds, w_skip, w_seq, w_ex, w_asg, w_par, w_ite, w_ret, w_retN, Ev.R.c1, Ev.R.ca, Ev.R.cl, Ev.R.co, Ev.R.ci, Ev.R.cf, Ev.R.fl, slot, rd, Ev.Slot.d, tests, truD, tk, tkAll, rdAll, tkFr, tkS1, tkSl, parG, ofOpt, asgT, Ev.T.count, asgG, Ev.asgG.asgGs, putS, runCall, lendOk, mems, argsOf, argOf, outsTo, outsOf, finish, walkOf, itemsD, needLock, lock, Ev.F.unlock, unlock, hide, testOf, permD, binD, intD, addD, itemD, setD, biD, b_lenL, b_lenT, nats_length, bInt, bList, b_tupL, b_tupT, b_sortD, b_sortN, isiD, c_lt, c_le, c_gt, c_ge, c_eqI, c_neI, c_inL, c_inT, c_ninL, c_ninT, c_inD, len_dictN, List.map_cons, List.map_nil, List.length_cons, List.length_nil, List.replicate_succ, List.replicate_zero, List.cons_append, List.nil_append, List.append_nil, List.getElem?_cons_zero, List.getElem?_cons_succ, List.set_cons_zero, List.set_cons_succ, Option.map_some, Option.map_none, Option.bind_some, Option.any_some]) (fun x hx => ⟨[some (.fz (.int (s : Int))), some (.fz (tup lot)), some (.fz (prs (plT s))), some (.fz (.lst (lot.map fun x => pr (plOf s x)))), none, some (.fz (.int ((plOf s x).1 : Int))), some (.fz (.int ((plOf s x).2 : Int)))], rfl, rfl, h x hx, fun _ => by simp [Is, v_nil, v_cons, v_star, v_bor, v_lend, v_var, v_give, v_int, v_bl, v_non, v_str, v_glob, v_bin, v_neg, v_not, v_cmp, v_cmp2, v_and, v_or, v_ite, v_tup, v_lst, v_ix, v_sl, v_call, v_callK, v_bi, v_divmod, v_mt, v_app, v_isi, v_itP, v_itE, v_rev, v_dnil, v_dkv, v_dun, v_dds, w_skip, w_seq, w_ex, w_asg, w_par, w_ite, w_ret, w_retN, Ev.R.c1, Ev.R.ca, Ev.R.cl, Ev.R.co, Ev.R.ci, Ev.R.cf, Ev.R.fl, slot, rd, Ev.Slot.d, tests, truD, tk, tkAll, rdAll, tkFr, tkS1, tkSl, parG, ofOpt, asgT, Ev.T.count, asgG, Ev.asgG.asgGs, putS, runCall, lendOk, mems, argsOf, argOf, outsTo, outsOf, finish, walkOf, itemsD, needLock, lock, Ev.F.unlock, unlock, hide, testOf, permD, binD, intD, addD, itemD, setD, biD, b_lenL, b_lenT, nats_length, bInt, bList, b_tupL, b_tupT, b_sortD, b_sortN, isiD, c_lt, c_le, c_gt, c_ge, c_eqI, c_neI, c_inL, c_inT, c_ninL, c_ninT, c_inD, len_dictN, List.map_cons, List.map_nil, List.length_cons, List.length_nil, List.replicate_succ, List.replicate_zero, List.cons_append, List.nil_append, List.append_nil, List.getElem?_cons_zero, List.getElem?_cons_succ, List.set_cons_zero, List.set_cons_succ, Option.map_some, Option.map_none, Option.bind_some, Option.any_some]⟩) (by unfold LIM; omega)
  have q1 := key (.cmp (.var 6) (.link .eq (.int 0) .nil)) (fun x => decide ((plOf s x).2 = 0)) (fun x hx => by simp [Is, v_nil, v_cons, v_star, v_bor, v_lend, v_var, v_give, v_int, v_bl, v_non, v_str, v_glob, v_bin, v_neg, v_not, v_cmp, v_cmp2, v_and, v_or, v_ite, v_tup, v_lst, v_ix, v_sl, v_call, v_callK, v_bi, v_divmod, v_mt, v_app, v_isi, v_itP, v_itE, v_rev, v_dnil, v_dkv, v_dun, v_dds, w_skip, w_seq, w_ex, w_asg, w_par, w_ite, w_ret, w_retN, Ev.R.c1, Ev.R.ca, Ev.R.cl, Ev.R.co, Ev.R.ci, Ev.R.cf, Ev.R.fl, slot, rd, Ev.Slot.d, tests, truD, tk, tkAll, rdAll, tkFr, tkS1, tkSl, parG, ofOpt, asgT, Ev.T.count, asgG, Ev.asgG.asgGs, putS, runCall, lendOk, mems, argsOf, argOf, outsTo, outsOf, finish, walkOf, itemsD, needLock, lock, Ev.F.unlock, unlock, hide, testOf, permD, binD, intD, addD, itemD, setD, biD, b_lenL, b_lenT, nats_length, bInt, bList, b_tupL, b_tupT, b_sortD, b_sortN, isiD, c_lt, c_le, c_gt, c_ge, c_eqI, c_neI, c_inL, c_inT, c_ninL, c_ninT, c_inD, len_dictN, List.map_cons, List.map_nil, List.length_cons, List.length_nil, List.replicate_succ, List.replicate_zero, List.cons_append, List.nil_append, List.append_nil, List.getElem?_cons_zero, List.getElem?_cons_succ, List.set_cons_zero, List.set_cons_succ, Option.map_some, Option.map_none, Option.bind_some, Option.any_some])
  have q2 := key (.cmp (.var 6) (.link .eq (.var 5) .nil)) (fun x => decide ((plOf s x).2 = (plOf s x).1)) (fun x hx => by
    have : decide (((plOf s x).2 : Int) = ((plOf s x).1 : Int)) = decide ((plOf s x).2 = (plOf s x).1) := by rw [Bool.eq_iff_iff]; simp; omega
    simp [Is, v_nil, v_cons, v_star, v_bor, v_lend, v_var, v_give, v_int, v_bl, v_non, v_str, v_glob, v_bin, v_neg, v_not, v_cmp, v_cmp2, v_and, v_or, v_ite, v_tup, v_lst, v_ix, v_sl, v_call, v_callK, v_bi, v_divmod, v_mt, v_app, v_isi, v_itP, v_itE, v_rev, v_dnil, v_dkv, v_dun, v_dds, w_skip, w_seq, w_ex, w_asg, w_par, w_ite, w_ret, w_retN, Ev.R.c1, Ev.R.ca, Ev.R.cl, Ev.R.co, Ev.R.ci, Ev.R.cf, Ev.R.fl, slot, rd, Ev.Slot.d, tests, truD, tk, tkAll, rdAll, tkFr, tkS1, tkSl, parG, ofOpt, asgT, Ev.T.count, asgG, Ev.asgG.asgGs, putS, runCall, lendOk, mems, argsOf, argOf, outsTo, outsOf, finish, walkOf, itemsD, needLock, lock, Ev.F.unlock, unlock, hide, testOf, permD, binD, intD, addD, itemD, setD, biD, b_lenL, b_lenT, nats_length, bInt, bList, b_tupL, b_tupT, b_sortD, b_sortN, isiD, c_lt, c_le, c_gt, c_ge, c_eqI, c_neI, c_inL, c_inT, c_ninL, c_ninT, c_inD, len_dictN, List.map_cons, List.map_nil, List.length_cons, List.length_nil, List.replicate_succ, List.replicate_zero, List.cons_append, List.nil_append, List.append_nil, List.getElem?_cons_zero, List.getElem?_cons_succ, List.set_cons_zero, List.set_cons_succ, Option.map_some, Option.map_none, Option.bind_some, Option.any_some, this])
  have q3 := key (.cmp (.var 5) (.link .eq (.bin .sub (.var 0) (.int 1)) .nil)) (fun x => decide ((plOf s x).1 + 1 = s)) (fun x hx => by
    have : decide (((plOf s x).1 : Int) = (s : Int) - 1) = decide ((plOf s x).1 + 1 = s) := by rw [Bool.eq_iff_iff]; simp; omega
    simp [Is, v_nil, v_cons, v_star, v_bor, v_lend, v_var, v_give, v_int, v_bl, v_non, v_str, v_glob, v_bin, v_neg, v_not, v_cmp, v_cmp2, v_and, v_or, v_ite, v_tup, v_lst, v_ix, v_sl, v_call, v_callK, v_bi, v_divmod, v_mt, v_app, v_isi, v_itP, v_itE, v_rev, v_dnil, v_dkv, v_dun, v_dds, w_skip, w_seq, w_ex, w_asg, w_par, w_ite, w_ret, w_retN, Ev.R.c1, Ev.R.ca, Ev.R.cl, Ev.R.co, Ev.R.ci, Ev.R.cf, Ev.R.fl, slot, rd, Ev.Slot.d, tests, truD, tk, tkAll, rdAll, tkFr, tkS1, tkSl, parG, ofOpt, asgT, Ev.T.count, asgG, Ev.asgG.asgGs, putS, runCall, lendOk, mems, argsOf, argOf, outsTo, outsOf, finish, walkOf, itemsD, needLock, lock, Ev.F.unlock, unlock, hide, testOf, permD, binD, intD, addD, itemD, setD, biD, b_lenL, b_lenT, nats_length, bInt, bList, b_tupL, b_tupT, b_sortD, b_sortN, isiD, c_lt, c_le, c_gt, c_ge, c_eqI, c_neI, c_inL, c_inT, c_ninL, c_ninT, c_inD, len_dictN, List.map_cons, List.map_nil, List.length_cons, List.length_nil, List.replicate_succ, List.replicate_zero, List.cons_append, List.nil_append, List.append_nil, List.getElem?_cons_zero, List.getElem?_cons_succ, List.set_cons_zero, List.set_cons_succ, Option.map_some, Option.map_none, Option.bind_some, Option.any_some, this])
  refine call_fz (ρ' := [some (.fz (.int (s : Int))), some (.fz (tup lot)), some (.fz (prs (plT s))), some (.fz (.lst (lot.map fun x => pr (plOf s x)))), none, none, none]) fn_law_meets rfl
    ((seq_nx (ρ1 := [some (.fz (.int (s : Int))), some (.fz (tup lot)), some (.fz (prs (plT s))), none, none, none, none]) (by simp [f__law_meets, v_nil, v_cons, v_star, v_bor, v_lend, v_var, v_give, v_int, v_bl, v_non, v_str, v_glob, v_bin, v_neg, v_not, v_cmp, v_cmp2, v_and, v_or, v_ite, v_tup, v_lst, v_ix, v_sl, v_call, v_callK, v_bi, v_divmod, v_mt, v_app, v_isi, v_itP, v_itE, v_rev, v_dnil, v_dkv, v_dun, v_dds, w_skip, w_seq, w_ex, w_asg, w_par, w_ite, w_ret, w_retN, Ev.R.c1, Ev.R.ca, Ev.R.cl, Ev.R.co, Ev.R.ci, Ev.R.cf, Ev.R.fl, slot, rd, Ev.Slot.d, tests, truD, tk, tkAll, rdAll, tkFr, tkS1, tkSl, parG, ofOpt, asgT, Ev.T.count, asgG, Ev.asgG.asgGs, putS, runCall, lendOk, mems, argsOf, argOf, outsTo, outsOf, finish, walkOf, itemsD, needLock, lock, Ev.F.unlock, unlock, hide, testOf, permD, binD, intD, addD, itemD, setD, biD, b_lenL, b_lenT, nats_length, bInt, bList, b_tupL, b_tupT, b_sortD, b_sortN, isiD, c_lt, c_le, c_gt, c_ge, c_eqI, c_neI, c_inL, c_inT, c_ninL, c_ninT, c_inD, len_dictN, List.map_cons, List.map_nil, List.length_cons, List.length_nil, List.replicate_succ, List.replicate_zero, List.cons_append, List.nil_append, List.append_nil, List.getElem?_cons_zero, List.getElem?_cons_succ, List.set_cons_zero, List.set_cons_succ, Option.map_some, Option.map_none, Option.bind_some, Option.any_some, e1])).trans ((seq_nx (ρ1 := [some (.fz (.int (s : Int))), some (.fz (tup lot)), some (.fz (prs (plT s))), some (.fz (.lst (lot.map fun x => pr (plOf s x)))), none, none, none]) (by simp [v_nil, v_cons, v_star, v_bor, v_lend, v_var, v_give, v_int, v_bl, v_non, v_str, v_glob, v_bin, v_neg, v_not, v_cmp, v_cmp2, v_and, v_or, v_ite, v_tup, v_lst, v_ix, v_sl, v_call, v_callK, v_bi, v_divmod, v_mt, v_app, v_isi, v_itP, v_itE, v_rev, v_dnil, v_dkv, v_dun, v_dds, w_skip, w_seq, w_ex, w_asg, w_par, w_ite, w_ret, w_retN, Ev.R.c1, Ev.R.ca, Ev.R.cl, Ev.R.co, Ev.R.ci, Ev.R.cf, Ev.R.fl, slot, rd, Ev.Slot.d, tests, truD, tk, tkAll, rdAll, tkFr, tkS1, tkSl, parG, ofOpt, asgT, Ev.T.count, asgG, Ev.asgG.asgGs, putS, runCall, lendOk, mems, argsOf, argOf, outsTo, outsOf, finish, walkOf, itemsD, needLock, lock, Ev.F.unlock, unlock, hide, testOf, permD, binD, intD, addD, itemD, setD, biD, b_lenL, b_lenT, nats_length, bInt, bList, b_tupL, b_tupT, b_sortD, b_sortN, isiD, c_lt, c_le, c_gt, c_ge, c_eqI, c_neI, c_inL, c_inT, c_ninL, c_ninT, c_inD, len_dictN, List.map_cons, List.map_nil, List.length_cons, List.length_nil, List.replicate_succ, List.replicate_zero, List.cons_append, List.nil_append, List.append_nil, List.getElem?_cons_zero, List.getElem?_cons_succ, List.set_cons_zero, List.set_cons_succ, Option.map_some, Option.map_none, Option.bind_some, Option.any_some, e2])).trans ?_)) (by simp [outsOf])
  have a1 := ne_any (fun x => decide ((plOf s x).2 = 0)) lot
  have a2 := ne_any (fun x => decide ((plOf s x).2 = (plOf s x).1)) lot
  have a3 := ne_any (fun x => decide ((plOf s x).1 + 1 = s)) lot
  unfold meetsL
  cases c1 : (lot.any fun x => decide ((plOf s x).2 = 0)) <;> cases c2 : (lot.any fun x => decide ((plOf s x).2 = (plOf s x).1)) <;> (rw [c1] at a1; rw [c2] at a2; simp [v_nil, v_cons, v_star, v_bor, v_lend, v_var, v_give, v_int, v_bl, v_non, v_str, v_glob, v_bin, v_neg, v_not, v_cmp, v_cmp2, v_and, v_or, v_ite, v_tup, v_lst, v_ix, v_sl, v_call, v_callK, v_bi, v_divmod, v_mt, v_app, v_isi, v_itP, v_itE, v_rev, v_dnil, v_dkv, v_dun, v_dds, w_skip, w_seq, w_ex, w_asg, w_par, w_ite, w_ret, w_retN, Ev.R.c1, Ev.R.ca, Ev.R.cl, Ev.R.co, Ev.R.ci, Ev.R.cf, Ev.R.fl, slot, rd, Ev.Slot.d, tests, truD, tk, tkAll, rdAll, tkFr, tkS1, tkSl, parG, ofOpt, asgT, Ev.T.count, asgG, Ev.asgG.asgGs, putS, runCall, lendOk, mems, argsOf, argOf, outsTo, outsOf, finish, walkOf, itemsD, needLock, lock, Ev.F.unlock, unlock, hide, testOf, permD, binD, intD, addD, itemD, setD, biD, b_lenL, b_lenT, nats_length, bInt, bList, b_tupL, b_tupT, b_sortD, b_sortN, isiD, c_lt, c_le, c_gt, c_ge, c_eqI, c_neI, c_inL, c_inT, c_ninL, c_ninT, c_inD, len_dictN, List.map_cons, List.map_nil, List.length_cons, List.length_nil, List.replicate_succ, List.replicate_zero, List.cons_append, List.nil_append, List.append_nil, List.getElem?_cons_zero, List.getElem?_cons_succ, List.set_cons_zero, List.set_cons_succ, Option.map_some, Option.map_none, Option.bind_some, Option.any_some, q1, q2, q3, a1, a2, a3])
/-- the sides, both ways -/
theorem sides_same {s : Nat} (h1 : 1 ≤ s) (h4 : s ≤ 4) {lot : List Nat} (hm : ∀ x ∈ lot, x < (plT s).length) : ((sdT s).all fun z => lot.any fun x => decide (x ∈ z)) = meetsL s lot := by
  have any_same : ∀ (f g : Nat → Bool), (∀ x < (plT s).length, f x = g x) → lot.any f = lot.any g := fun f g h => by
    rw [Bool.eq_iff_iff, List.any_eq_true, List.any_eq_true]
    exact ⟨fun ⟨x, hx, e⟩ => ⟨x, hx, by rw [← h x (hm x hx)]; exact e⟩, fun ⟨x, hx, e⟩ => ⟨x, hx, by rw [h x (hm x hx)]; exact e⟩⟩
  unfold meetsL
  match s, h1, h4, any_same with
  | 1, _, _, A =>
    simp only [sdT, List.all_cons, List.all_nil, Bool.and_true]
    rw [A (fun x => decide ((plOf 1 x).2 = 0)) (fun x => decide (x ∈ [0])) (by decide), A (fun x => decide ((plOf 1 x).2 = (plOf 1 x).1)) (fun x => decide (x ∈ [0])) (by decide), A (fun x => decide ((plOf 1 x).1 + 1 = 1)) (fun x => decide (x ∈ [0])) (by decide)]
  | 2, _, _, A =>
    simp only [sdT, List.all_cons, List.all_nil, Bool.and_true]
    rw [A (fun x => decide ((plOf 2 x).2 = 0)) (fun x => decide (x ∈ [0, 1])) (by decide), A (fun x => decide ((plOf 2 x).2 = (plOf 2 x).1)) (fun x => decide (x ∈ [0, 2])) (by decide), A (fun x => decide ((plOf 2 x).1 + 1 = 2)) (fun x => decide (x ∈ [1, 2])) (by decide)]
  | 3, _, _, A =>
    simp only [sdT, List.all_cons, List.all_nil, Bool.and_true]
    rw [A (fun x => decide ((plOf 3 x).2 = 0)) (fun x => decide (x ∈ [0, 1, 3])) (by decide), A (fun x => decide ((plOf 3 x).2 = (plOf 3 x).1)) (fun x => decide (x ∈ [0, 2, 5])) (by decide), A (fun x => decide ((plOf 3 x).1 + 1 = 3)) (fun x => decide (x ∈ [3, 4, 5])) (by decide)]
  | 4, _, _, A =>
    simp only [sdT, List.all_cons, List.all_nil, Bool.and_true]
    rw [A (fun x => decide ((plOf 4 x).2 = 0)) (fun x => decide (x ∈ [0, 1, 3, 6])) (by decide), A (fun x => decide ((plOf 4 x).2 = (plOf 4 x).1)) (fun x => decide (x ∈ [0, 2, 5, 9])) (by decide), A (fun x => decide ((plOf 4 x).1 + 1 = 4)) (fun x => decide (x ∈ [6, 7, 8, 9])) (by decide)]
theorem rep_bools (b : Bool) : (repD (.lst [.bl b, .bl b])).isSome = true := by
  cases b <;> decide +kernel
theorem rep_cells {s : Nat} (h1 : 1 ≤ s) (h4 : s ≤ 4) : (repD (.lst [.int ((plT s).length : Nat), .int ((plT s).length : Nat)])).isSome = true := by
  match s, h1, h4 with
  | 1, _, _ => decide +kernel
  | 2, _, _ => decide +kernel
  | 3, _, _ => decide +kernel
  | 4, _, _ => decide +kernel
theorem rep_near {s c : Nat} (h1 : 1 ≤ s) (h4 : s ≤ 4) (hc : c < (plT s).length) : (repD (.lst [tup (nbOf (nbT s) c), tup (nbOf (nbT s) c)])).isSome = true := by
  have h : ((List.range (plT s).length).all fun c => (repD (.lst [tup (nbOf (nbT s) c), tup (nbOf (nbT s) c)])).isSome) = true := by
    match s, h1, h4 with
    | 1, _, _ => decide +kernel
    | 2, _, _ => decide +kernel
    | 3, _, _ => decide +kernel
    | 4, _, _ => decide +kernel
  exact List.all_eq_true.mp h c (List.mem_range.mpr hc)

/-! ### the pool -/
theorem fn_law_pool : P.fns[23]? = some f__law_pool := by rw [Has.fns]; rfl
theorem partOf_map {α β : Type} (f : α → β) (l : List α) (k : Int) : partOf (l.map f) none (some k) = (partOf l none (some k)).map f := by
  unfold partOf
  simp [List.map_take]
theorem pool_ok (n : Nat) (ns : List Int) (turn : Nat) : ∃ a b : Int, 0 ≤ b ∧ callN P (n + 1) 23 [.fz (.lst (ns.map D.int)), .fz (.int (turn : Int))] = .ok true (pool a b 0) [] := by
  let own : Int := if h : turn < ns.length then ns[turn] else 70001 * (turn : Int) + 4975
  have s1 : ∃ st : Int, evS ⟨callN P n, P.glob, P.rep⟩ P.fuel (.par (.cons (.nm 3 false) (.cons (.nm 4 false) .nil)) (.cons (.ite (.cmp (.var 1) (.link .lt (.bi .len (.cons (.var 0) .nil)) .nil)) (.bi .int (.cons (.ix (.var 0) (.var 1)) .nil)) (.bin .add (.bin .mul (.int 70001) (.var 1)) (.int 4975))) (.cons (.bin .add (.int 1133026) (.bin .mul (.int 5087) (.var 1))) .nil))) [some (.fz (.lst (ns.map D.int))), some (.fz (.int (turn : Int))), none, none, none] = .nx [some (.fz (.lst (ns.map D.int))), some (.fz (.int (turn : Int))), none, some (.fz (.int own)), some (.fz (.int st))] := by
    refine ⟨1133026 + 5087 * (turn : Int), ?_⟩
    by_cases h : turn < ns.length
    · have e1 : own = ns[turn] := dif_pos h
      have e2 : ixD ns.length (turn : Int) = some turn := ix_nat h
      rw [e1]
      simp [v_nil, v_cons, v_star, v_bor, v_lend, v_var, v_give, v_int, v_bl, v_non, v_str, v_glob, v_bin, v_neg, v_not, v_cmp, v_cmp2, v_and, v_or, v_ite, v_tup, v_lst, v_ix, v_sl, v_call, v_callK, v_bi, v_divmod, v_mt, v_app, v_isi, v_itP, v_itE, v_rev, v_dnil, v_dkv, v_dun, v_dds, w_skip, w_seq, w_ex, w_asg, w_par, w_ite, w_ret, w_retN, Ev.R.c1, Ev.R.ca, Ev.R.cl, Ev.R.co, Ev.R.ci, Ev.R.cf, Ev.R.fl, slot, rd, Ev.Slot.d, tests, truD, tk, tkAll, rdAll, tkFr, tkS1, tkSl, parG, ofOpt, asgT, Ev.T.count, asgG, Ev.asgG.asgGs, putS, runCall, lendOk, mems, argsOf, argOf, outsTo, outsOf, finish, walkOf, itemsD, needLock, lock, Ev.F.unlock, unlock, hide, testOf, permD, binD, intD, addD, itemD, setD, biD, b_lenL, b_lenT, nats_length, bInt, bList, b_tupL, b_tupT, b_sortD, b_sortN, isiD, c_lt, c_le, c_gt, c_ge, c_eqI, c_neI, c_inL, c_inT, c_ninL, c_ninT, c_inD, len_dictN, List.map_cons, List.map_nil, List.length_cons, List.length_nil, List.replicate_succ, List.replicate_zero, List.cons_append, List.nil_append, List.append_nil, List.getElem?_cons_zero, List.getElem?_cons_succ, List.set_cons_zero, List.set_cons_succ, Option.map_some, Option.map_none, Option.bind_some, Option.any_some, h, e2, small, P64]
    · have e1 : own = 70001 * (turn : Int) + 4975 := dif_neg h
      rw [e1]
      simp [v_nil, v_cons, v_star, v_bor, v_lend, v_var, v_give, v_int, v_bl, v_non, v_str, v_glob, v_bin, v_neg, v_not, v_cmp, v_cmp2, v_and, v_or, v_ite, v_tup, v_lst, v_ix, v_sl, v_call, v_callK, v_bi, v_divmod, v_mt, v_app, v_isi, v_itP, v_itE, v_rev, v_dnil, v_dkv, v_dun, v_dds, w_skip, w_seq, w_ex, w_asg, w_par, w_ite, w_ret, w_retN, Ev.R.c1, Ev.R.ca, Ev.R.cl, Ev.R.co, Ev.R.ci, Ev.R.cf, Ev.R.fl, slot, rd, Ev.Slot.d, tests, truD, tk, tkAll, rdAll, tkFr, tkS1, tkSl, parG, ofOpt, asgT, Ev.T.count, asgG, Ev.asgG.asgGs, putS, runCall, lendOk, mems, argsOf, argOf, outsTo, outsOf, finish, walkOf, itemsD, needLock, lock, Ev.F.unlock, unlock, hide, testOf, permD, binD, intD, addD, itemD, setD, biD, b_lenL, b_lenT, nats_length, bInt, bList, b_tupL, b_tupT, b_sortD, b_sortN, isiD, c_lt, c_le, c_gt, c_ge, c_eqI, c_neI, c_inL, c_inT, c_ninL, c_ninT, c_inD, len_dictN, List.map_cons, List.map_nil, List.length_cons, List.length_nil, List.replicate_succ, List.replicate_zero, List.cons_append, List.nil_append, List.append_nil, List.getElem?_cons_zero, List.getElem?_cons_succ, List.set_cons_zero, List.set_cons_succ, Option.map_some, Option.map_none, Option.bind_some, Option.any_some, h, small, P64]
  obtain ⟨st, s1⟩ := s1
  have lp := forGo_list (g := .nm 2 false) (body := fun ρ => evS ⟨callN P n, P.glob, P.rep⟩ P.fuel (.asg (.nm 4 false) (.bin .mod (.bi .int (.cons (.bin .add (.bin .add (.bin .mul (.var 4) (.int 48271)) (.bin .mod (.bi .int (.cons (.var 2) .nil)) (.int 2147483489))) (.int 639)) .nil)) (.int 2147483489))) ρ)
    (fun _ ρ => ∃ (o : Option Slot) (st : Int), FzO o ∧ ρ = [some (.fz (.lst (ns.map D.int))), some (.fz (.int (turn : Int))), o, some (.fz (.int own)), some (.fz (.int st))])
    ((partOf ns none (some 63)).map D.int) [some (.fz (.lst (ns.map D.int))), some (.fz (.int (turn : Int))), none, some (.fz (.int own)), some (.fz (.int st))] ⟨none, st, FzO.no, rfl⟩ (fun i x ρ hx ⟨o, st, ho, e⟩ => ?_)
  · obtain ⟨ρ', q1, o, st', ho, rfl⟩ := lp
    have hb : 0 ≤ (if own < 0 ∨ 1000000000000000000 ≤ own then (if own < 0 then -own else own) else 0) := by split <;> (try split) <;> omega
    refine ⟨(st' + own * 1013) % 2147483489, if own < 0 ∨ 1000000000000000000 ≤ own then (if own < 0 then -own else own) else 0, hb, ?_⟩
    refine call_fr (ρ' := [some (.fz (.lst (ns.map D.int))), some (.fz (.int (turn : Int))), o, some (.fz (.int own)), some (.fz (.int st'))]) fn_law_pool rfl ((seq_nx s1).trans ((seq_nx (loop_nx (ρ1 := [some (.fz (.lst (ns.map D.int))), some (.fz (.int (turn : Int))), none, some (.fz (.int own)), some (.fz (.int st))]) (l := (partOf ns none (some 63)).map D.int) ?_ q1)).trans ?_)) (by simp [outsOf])
    · simp [v_nil, v_cons, v_star, v_bor, v_lend, v_var, v_give, v_int, v_bl, v_non, v_str, v_glob, v_bin, v_neg, v_not, v_cmp, v_cmp2, v_and, v_or, v_ite, v_tup, v_lst, v_ix, v_sl, v_call, v_callK, v_bi, v_divmod, v_mt, v_app, v_isi, v_itP, v_itE, v_rev, v_dnil, v_dkv, v_dun, v_dds, w_skip, w_seq, w_ex, w_asg, w_par, w_ite, w_ret, w_retN, Ev.R.c1, Ev.R.ca, Ev.R.cl, Ev.R.co, Ev.R.ci, Ev.R.cf, Ev.R.fl, slot, rd, Ev.Slot.d, tests, truD, tk, tkAll, rdAll, tkFr, tkS1, tkSl, parG, ofOpt, asgT, Ev.T.count, asgG, Ev.asgG.asgGs, putS, runCall, lendOk, mems, argsOf, argOf, outsTo, outsOf, finish, walkOf, itemsD, needLock, lock, Ev.F.unlock, unlock, hide, testOf, permD, binD, intD, addD, itemD, setD, biD, b_lenL, b_lenT, nats_length, bInt, bList, b_tupL, b_tupT, b_sortD, b_sortN, isiD, c_lt, c_le, c_gt, c_ge, c_eqI, c_neI, c_inL, c_inT, c_ninL, c_ninT, c_inD, len_dictN, List.map_cons, List.map_nil, List.length_cons, List.length_nil, List.replicate_succ, List.replicate_zero, List.cons_append, List.nil_append, List.append_nil, List.getElem?_cons_zero, List.getElem?_cons_succ, List.set_cons_zero, List.set_cons_succ, Option.map_some, Option.map_none, Option.bind_some, Option.any_some, sliceD, partOf_map]
    · have p18 : (10 : Int) ^ 18 = 1000000000000000000 := by decide
      by_cases c1 : own < 0
      · simp [v_nil, v_cons, v_star, v_bor, v_lend, v_var, v_give, v_int, v_bl, v_non, v_str, v_glob, v_bin, v_neg, v_not, v_cmp, v_cmp2, v_and, v_or, v_ite, v_tup, v_lst, v_ix, v_sl, v_call, v_callK, v_bi, v_divmod, v_mt, v_app, v_isi, v_itP, v_itE, v_rev, v_dnil, v_dkv, v_dun, v_dds, w_skip, w_seq, w_ex, w_asg, w_par, w_ite, w_ret, w_retN, Ev.R.c1, Ev.R.ca, Ev.R.cl, Ev.R.co, Ev.R.ci, Ev.R.cf, Ev.R.fl, slot, rd, Ev.Slot.d, tests, truD, tk, tkAll, rdAll, tkFr, tkS1, tkSl, parG, ofOpt, asgT, Ev.T.count, asgG, Ev.asgG.asgGs, putS, runCall, lendOk, mems, argsOf, argOf, outsTo, outsOf, finish, walkOf, itemsD, needLock, lock, Ev.F.unlock, unlock, hide, testOf, permD, binD, intD, addD, itemD, setD, biD, b_lenL, b_lenT, nats_length, bInt, bList, b_tupL, b_tupT, b_sortD, b_sortN, isiD, c_lt, c_le, c_gt, c_ge, c_eqI, c_neI, c_inL, c_inT, c_ninL, c_ninT, c_inD, len_dictN, List.map_cons, List.map_nil, List.length_cons, List.length_nil, List.replicate_succ, List.replicate_zero, List.cons_append, List.nil_append, List.append_nil, List.getElem?_cons_zero, List.getElem?_cons_succ, List.set_cons_zero, List.set_cons_succ, Option.map_some, Option.map_none, Option.bind_some, Option.any_some, c1, small, P64, bAbs, pool, LIM]
      · by_cases c2 : 1000000000000000000 ≤ own
        · simp [v_nil, v_cons, v_star, v_bor, v_lend, v_var, v_give, v_int, v_bl, v_non, v_str, v_glob, v_bin, v_neg, v_not, v_cmp, v_cmp2, v_and, v_or, v_ite, v_tup, v_lst, v_ix, v_sl, v_call, v_callK, v_bi, v_divmod, v_mt, v_app, v_isi, v_itP, v_itE, v_rev, v_dnil, v_dkv, v_dun, v_dds, w_skip, w_seq, w_ex, w_asg, w_par, w_ite, w_ret, w_retN, Ev.R.c1, Ev.R.ca, Ev.R.cl, Ev.R.co, Ev.R.ci, Ev.R.cf, Ev.R.fl, slot, rd, Ev.Slot.d, tests, truD, tk, tkAll, rdAll, tkFr, tkS1, tkSl, parG, ofOpt, asgT, Ev.T.count, asgG, Ev.asgG.asgGs, putS, runCall, lendOk, mems, argsOf, argOf, outsTo, outsOf, finish, walkOf, itemsD, needLock, lock, Ev.F.unlock, unlock, hide, testOf, permD, binD, intD, addD, itemD, setD, biD, b_lenL, b_lenT, nats_length, bInt, bList, b_tupL, b_tupT, b_sortD, b_sortN, isiD, c_lt, c_le, c_gt, c_ge, c_eqI, c_neI, c_inL, c_inT, c_ninL, c_ninT, c_inD, len_dictN, List.map_cons, List.map_nil, List.length_cons, List.length_nil, List.replicate_succ, List.replicate_zero, List.cons_append, List.nil_append, List.append_nil, List.getElem?_cons_zero, List.getElem?_cons_succ, List.set_cons_zero, List.set_cons_succ, Option.map_some, Option.map_none, Option.bind_some, Option.any_some, c1, c2, small, P64, bAbs, pool, LIM]
        · simp [v_nil, v_cons, v_star, v_bor, v_lend, v_var, v_give, v_int, v_bl, v_non, v_str, v_glob, v_bin, v_neg, v_not, v_cmp, v_cmp2, v_and, v_or, v_ite, v_tup, v_lst, v_ix, v_sl, v_call, v_callK, v_bi, v_divmod, v_mt, v_app, v_isi, v_itP, v_itE, v_rev, v_dnil, v_dkv, v_dun, v_dds, w_skip, w_seq, w_ex, w_asg, w_par, w_ite, w_ret, w_retN, Ev.R.c1, Ev.R.ca, Ev.R.cl, Ev.R.co, Ev.R.ci, Ev.R.cf, Ev.R.fl, slot, rd, Ev.Slot.d, tests, truD, tk, tkAll, rdAll, tkFr, tkS1, tkSl, parG, ofOpt, asgT, Ev.T.count, asgG, Ev.asgG.asgGs, putS, runCall, lendOk, mems, argsOf, argOf, outsTo, outsOf, finish, walkOf, itemsD, needLock, lock, Ev.F.unlock, unlock, hide, testOf, permD, binD, intD, addD, itemD, setD, biD, b_lenL, b_lenT, nats_length, bInt, bList, b_tupL, b_tupT, b_sortD, b_sortN, isiD, c_lt, c_le, c_gt, c_ge, c_eqI, c_neI, c_inL, c_inT, c_ninL, c_ninT, c_inD, len_dictN, List.map_cons, List.map_nil, List.length_cons, List.length_nil, List.replicate_succ, List.replicate_zero, List.cons_append, List.nil_append, List.append_nil, List.getElem?_cons_zero, List.getElem?_cons_succ, List.set_cons_zero, List.set_cons_succ, Option.map_some, Option.map_none, Option.bind_some, Option.any_some, c1, c2, small, P64, bAbs, pool, LIM]
  · subst e
    rw [List.getElem?_map] at hx
    obtain ⟨k, hk, rfl⟩ := Option.map_eq_some_iff.mp hx
    refine ⟨[some (.fz (.lst (ns.map D.int))), some (.fz (.int (turn : Int))), some (.fz (.int k)), some (.fz (.int own)), some (.fz (.int st))], ?_, [some (.fz (.lst (ns.map D.int))), some (.fz (.int (turn : Int))), some (.fz (.int k)), some (.fz (.int own)), some (.fz (.int ((st * 48271 + k % 2147483489 + 639) % 2147483489)))], .inl ?_, some (.fz (.int k)), (st * 48271 + k % 2147483489 + 639) % 2147483489, FzO.fz _, rfl⟩
    · rcases ho with rfl | ⟨d, rfl⟩ <;> simp [v_nil, v_cons, v_star, v_bor, v_lend, v_var, v_give, v_int, v_bl, v_non, v_str, v_glob, v_bin, v_neg, v_not, v_cmp, v_cmp2, v_and, v_or, v_ite, v_tup, v_lst, v_ix, v_sl, v_call, v_callK, v_bi, v_divmod, v_mt, v_app, v_isi, v_itP, v_itE, v_rev, v_dnil, v_dkv, v_dun, v_dds, w_skip, w_seq, w_ex, w_asg, w_par, w_ite, w_ret, w_retN, Ev.R.c1, Ev.R.ca, Ev.R.cl, Ev.R.co, Ev.R.ci, Ev.R.cf, Ev.R.fl, slot, rd, Ev.Slot.d, tests, truD, tk, tkAll, rdAll, tkFr, tkS1, tkSl, parG, ofOpt, asgT, Ev.T.count, asgG, Ev.asgG.asgGs, putS, runCall, lendOk, mems, argsOf, argOf, outsTo, outsOf, finish, walkOf, itemsD, needLock, lock, Ev.F.unlock, unlock, hide, testOf, permD, binD, intD, addD, itemD, setD, biD, b_lenL, b_lenT, nats_length, bInt, bList, b_tupL, b_tupT, b_sortD, b_sortN, isiD, c_lt, c_le, c_gt, c_ge, c_eqI, c_neI, c_inL, c_inT, c_ninL, c_ninT, c_inD, len_dictN, List.map_cons, List.map_nil, List.length_cons, List.length_nil, List.replicate_succ, List.replicate_zero, List.cons_append, List.nil_append, List.append_nil, List.getElem?_cons_zero, List.getElem?_cons_succ, List.set_cons_zero, List.set_cons_succ, Option.map_some, Option.map_none, Option.bind_some, Option.any_some]
    · simp [v_nil, v_cons, v_star, v_bor, v_lend, v_var, v_give, v_int, v_bl, v_non, v_str, v_glob, v_bin, v_neg, v_not, v_cmp, v_cmp2, v_and, v_or, v_ite, v_tup, v_lst, v_ix, v_sl, v_call, v_callK, v_bi, v_divmod, v_mt, v_app, v_isi, v_itP, v_itE, v_rev, v_dnil, v_dkv, v_dun, v_dds, w_skip, w_seq, w_ex, w_asg, w_par, w_ite, w_ret, w_retN, Ev.R.c1, Ev.R.ca, Ev.R.cl, Ev.R.co, Ev.R.ci, Ev.R.cf, Ev.R.fl, slot, rd, Ev.Slot.d, tests, truD, tk, tkAll, rdAll, tkFr, tkS1, tkSl, parG, ofOpt, asgT, Ev.T.count, asgG, Ev.asgG.asgGs, putS, runCall, lendOk, mems, argsOf, argOf, outsTo, outsOf, finish, walkOf, itemsD, needLock, lock, Ev.F.unlock, unlock, hide, testOf, permD, binD, intD, addD, itemD, setD, biD, b_lenL, b_lenT, nats_length, bInt, bList, b_tupL, b_tupT, b_sortD, b_sortN, isiD, c_lt, c_le, c_gt, c_ge, c_eqI, c_neI, c_inL, c_inT, c_ninL, c_ninT, c_inD, len_dictN, List.map_cons, List.map_nil, List.length_cons, List.length_nil, List.replicate_succ, List.replicate_zero, List.cons_append, List.nil_append, List.append_nil, List.getElem?_cons_zero, List.getElem?_cons_succ, List.set_cons_zero, List.set_cons_succ, Option.map_some, Option.map_none, Option.bind_some, Option.any_some, small, P64]
end K75
end

section
set_option Elab.async false
set_option linter.all false
set_option maxRecDepth 1000000
set_option maxHeartbeats 0
/-! ### law k75, its loops -/
namespace K75
open Ev
variable {P : Prog} [Has P] [Tab P]
theorem ite_no {p : Par} {w : Nat} {c : Ev.E} {a b : Ev.S} {ρ ρ1 : Env} (h : ev p c ρ = .ok (.fz (.bl false)) ρ1) : evS p w (.ite c a b) ρ = evS p w b ρ1 := by
  rw [w_ite, h]
  rfl
theorem rep_ok : (⟨callN P n, P.glob, P.rep⟩ : Par).rep = repD := Has.rep (P := P)
/-- the cells of a side -/
theorem cells_turn (n s : Nat) (h1 : 1 ≤ s) (h4 : s ≤ 4) (pl : D) (o3 o4 o5 : Option Slot) (f3 : FzO o3) (f5 : FzO o5) : ∃ o3' o5', FzO o3' ∧ FzO o5' ∧
    evS ⟨callN P (n + 7), P.glob, P.rep⟩ P.fuel (.loop (.nm 3 false) (.itR (.cons (.var 2) .nil)) (.seq (.asg (.nm 5 false) (.call 27 (.cons (.var 1) (.cons (.var 3) .nil)))) (.ite (.or (.cmp (.bi .repr (.cons (.lst (.cons (.call 21 (.cons (.var 1) (.cons (.var 3) .nil))) (.cons (.callK 21 (.cons (.var 3) (.cons (.var 1) .nil)) [1, 0]) .nil))) .nil)) (.link .ne (.bi .repr (.cons (.lst (.cons (.var 5) (.cons (.var 5) .nil))) .nil)) .nil)) (.cmp (.lc (.nm 6 false) (.itP (.var 5)) (.cmp (.var 3) (.link .notin (.call 21 (.cons (.var 1) (.cons (.var 6) .nil))) .nil)) (.var 6) [6]) (.link .ne (.lst .nil) .nil))) (.ret (.bl false)) .skip))) [some (.ln pl), some (.fz (.int (s : Int))), some (.fz (.int ((plT s).length : Nat))), o3, o4, o5, none]
      = .nx [some (.ln pl), some (.fz (.int (s : Int))), some (.fz (.int ((plT s).length : Nat))), o3', o4, o5', none] := by
  obtain ⟨k1, k2, k3, k4, k5, k6⟩ := nb_len h1 h4
  have lp := forGo_list (g := .nm 3 false) (body := fun ρ => evS ⟨callN P (n + 7), P.glob, P.rep⟩ P.fuel (.seq (.asg (.nm 5 false) (.call 27 (.cons (.var 1) (.cons (.var 3) .nil)))) (.ite (.or (.cmp (.bi .repr (.cons (.lst (.cons (.call 21 (.cons (.var 1) (.cons (.var 3) .nil))) (.cons (.callK 21 (.cons (.var 3) (.cons (.var 1) .nil)) [1, 0]) .nil))) .nil)) (.link .ne (.bi .repr (.cons (.lst (.cons (.var 5) (.cons (.var 5) .nil))) .nil)) .nil)) (.cmp (.lc (.nm 6 false) (.itP (.var 5)) (.cmp (.var 3) (.link .notin (.call 21 (.cons (.var 1) (.cons (.var 6) .nil))) .nil)) (.var 6) [6]) (.link .ne (.lst .nil) .nil))) (.ret (.bl false)) .skip)) ρ)
    (fun _ ρ => ∃ o3 o5, FzO o3 ∧ FzO o5 ∧ ρ = [some (.ln pl), some (.fz (.int (s : Int))), some (.fz (.int ((plT s).length : Nat))), o3, o4, o5, none])
    (nats (List.range (plT s).length)) [some (.ln pl), some (.fz (.int (s : Int))), some (.fz (.int ((plT s).length : Nat))), o3, o4, o5, none] ⟨o3, o5, f3, f5, rfl⟩ (fun i x ρ hx ⟨o3, o5, f3, f5, e⟩ => ?_)
  · obtain ⟨ρ', q1, o3', o5', f3', f5', rfl⟩ := lp
    exact ⟨o3', o5', f3', f5', loop_nx (itR1 (r := .sl 2) (by simp [v_nil, v_cons, v_star, v_bor, v_lend, v_var, v_give, v_int, v_bl, v_non, v_str, v_glob, v_bin, v_neg, v_not, v_cmp, v_cmp2, v_and, v_or, v_ite, v_tup, v_lst, v_ix, v_sl, v_call, v_callK, v_bi, v_divmod, v_mt, v_app, v_isi, v_itP, v_itE, v_rev, v_dnil, v_dkv, v_dun, v_dds, w_skip, w_seq, w_ex, w_asg, w_par, w_ite, w_ret, w_retN, Ev.R.c1, Ev.R.ca, Ev.R.cl, Ev.R.co, Ev.R.ci, Ev.R.cf, Ev.R.fl, slot, rd, Ev.Slot.d, tests, truD, tk, tkAll, rdAll, tkFr, tkS1, tkSl, parG, ofOpt, asgT, Ev.T.count, asgG, Ev.asgG.asgGs, putS, runCall, lendOk, mems, argsOf, argOf, outsTo, outsOf, finish, walkOf, itemsD, needLock, lock, Ev.F.unlock, unlock, hide, testOf, permD, binD, intD, addD, itemD, setD, biD, b_lenL, b_lenT, nats_length, bInt, bList, b_tupL, b_tupT, b_sortD, b_sortN, isiD, c_lt, c_le, c_gt, c_ge, c_eqI, c_neI, c_inL, c_inT, c_ninL, c_ninT, c_inD, len_dictN, List.map_cons, List.map_nil, List.length_cons, List.length_nil, List.replicate_succ, List.replicate_zero, List.cons_append, List.nil_append, List.append_nil, List.getElem?_cons_zero, List.getElem?_cons_succ, List.set_cons_zero, List.set_cons_succ, Option.map_some, Option.map_none, Option.bind_some, Option.any_some]) rfl (by omega)) q1⟩
  · subst e
    rw [nats_get] at hx
    obtain ⟨k, hk, rfl⟩ := Option.map_eq_some_iff.mp hx
    have hk2 : k < (plT s).length := List.mem_range.mp (List.mem_of_getElem? hk)
    have hk3 : k < (nbT s).length := by omega
    have near := Tab.near (P := P) (n + 5) s k hk3
    refine ⟨[some (.ln pl), some (.fz (.int (s : Int))), some (.fz (.int ((plT s).length : Nat))), some (.fz (.int (k : Int))), o4, o5, none], ?_, [some (.ln pl), some (.fz (.int (s : Int))), some (.fz (.int ((plT s).length : Nat))), some (.fz (.int (k : Int))), o4, some (.fz (tup (nbOf (nbT s) k))), none], .inl ?_, _, _, FzO.fz _, FzO.fz _, rfl⟩
    · rcases f3 with rfl | ⟨d, rfl⟩ <;> simp [v_nil, v_cons, v_star, v_bor, v_lend, v_var, v_give, v_int, v_bl, v_non, v_str, v_glob, v_bin, v_neg, v_not, v_cmp, v_cmp2, v_and, v_or, v_ite, v_tup, v_lst, v_ix, v_sl, v_call, v_callK, v_bi, v_divmod, v_mt, v_app, v_isi, v_itP, v_itE, v_rev, v_dnil, v_dkv, v_dun, v_dds, w_skip, w_seq, w_ex, w_asg, w_par, w_ite, w_ret, w_retN, Ev.R.c1, Ev.R.ca, Ev.R.cl, Ev.R.co, Ev.R.ci, Ev.R.cf, Ev.R.fl, slot, rd, Ev.Slot.d, tests, truD, tk, tkAll, rdAll, tkFr, tkS1, tkSl, parG, ofOpt, asgT, Ev.T.count, asgG, Ev.asgG.asgGs, putS, runCall, lendOk, mems, argsOf, argOf, outsTo, outsOf, finish, walkOf, itemsD, needLock, lock, Ev.F.unlock, unlock, hide, testOf, permD, binD, intD, addD, itemD, setD, biD, b_lenL, b_lenT, nats_length, bInt, bList, b_tupL, b_tupT, b_sortD, b_sortN, isiD, c_lt, c_le, c_gt, c_ge, c_eqI, c_neI, c_inL, c_inT, c_ninL, c_ninT, c_inD, len_dictN, List.map_cons, List.map_nil, List.length_cons, List.length_nil, List.replicate_succ, List.replicate_zero, List.cons_append, List.nil_append, List.append_nil, List.getElem?_cons_zero, List.getElem?_cons_succ, List.set_cons_zero, List.set_cons_succ, Option.map_some, Option.map_none, Option.bind_some, Option.any_some]
    · have s5 : evS ⟨callN P (n + 7), P.glob, P.rep⟩ P.fuel (.asg (.nm 5 false) (.call 27 (.cons (.var 1) (.cons (.var 3) .nil)))) [some (.ln pl), some (.fz (.int (s : Int))), some (.fz (.int ((plT s).length : Nat))), some (.fz (.int (k : Int))), o4, o5, none]
          = .nx [some (.ln pl), some (.fz (.int (s : Int))), some (.fz (.int ((plT s).length : Nat))), some (.fz (.int (k : Int))), o4, some (.fz (tup (nbOf (nbT s) k))), none] := by
        rcases f5 with rfl | ⟨d, rfl⟩ <;> simp [v_nil, v_cons, v_star, v_bor, v_lend, v_var, v_give, v_int, v_bl, v_non, v_str, v_glob, v_bin, v_neg, v_not, v_cmp, v_cmp2, v_and, v_or, v_ite, v_tup, v_lst, v_ix, v_sl, v_call, v_callK, v_bi, v_divmod, v_mt, v_app, v_isi, v_itP, v_itE, v_rev, v_dnil, v_dkv, v_dun, v_dds, w_skip, w_seq, w_ex, w_asg, w_par, w_ite, w_ret, w_retN, Ev.R.c1, Ev.R.ca, Ev.R.cl, Ev.R.co, Ev.R.ci, Ev.R.cf, Ev.R.fl, slot, rd, Ev.Slot.d, tests, truD, tk, tkAll, rdAll, tkFr, tkS1, tkSl, parG, ofOpt, asgT, Ev.T.count, asgG, Ev.asgG.asgGs, putS, runCall, lendOk, mems, argsOf, argOf, outsTo, outsOf, finish, walkOf, itemsD, needLock, lock, Ev.F.unlock, unlock, hide, testOf, permD, binD, intD, addD, itemD, setD, biD, b_lenL, b_lenT, nats_length, bInt, bList, b_tupL, b_tupT, b_sortD, b_sortN, isiD, c_lt, c_le, c_gt, c_ge, c_eqI, c_neI, c_inL, c_inT, c_ninL, c_ninT, c_inD, len_dictN, List.map_cons, List.map_nil, List.length_cons, List.length_nil, List.replicate_succ, List.replicate_zero, List.cons_append, List.nil_append, List.append_nil, List.getElem?_cons_zero, List.getElem?_cons_succ, List.set_cons_zero, List.set_cons_succ, Option.map_some, Option.map_none, Option.bind_some, Option.any_some, near]
      have bes : ∀ m c : Nat, c < (plT s).length → callN P (m + 5) 21 [.fz (.int (s : Int)), .fz (.int (c : Int))] = .ok false (tup (nbOf (nbT s) c)) [] := fun m c hc => beside_ok m s c h1 h4 hc
      have r1 := rep_same (p := ⟨callN P (n + 7), P.glob, P.rep⟩) (a := .call 21 (.cons (.var 1) (.cons (.var 3) .nil))) (b := .callK 21 (.cons (.var 3) (.cons (.var 1) .nil)) [1, 0]) (c := .var 5) (e := .var 5) (ρ := [some (.ln pl), some (.fz (.int (s : Int))), some (.fz (.int ((plT s).length : Nat))), some (.fz (.int (k : Int))), o4, some (.fz (tup (nbOf (nbT s) k))), none]) (d := tup (nbOf (nbT s) k))
        (by simp [Is, v_nil, v_cons, v_star, v_bor, v_lend, v_var, v_give, v_int, v_bl, v_non, v_str, v_glob, v_bin, v_neg, v_not, v_cmp, v_cmp2, v_and, v_or, v_ite, v_tup, v_lst, v_ix, v_sl, v_call, v_callK, v_bi, v_divmod, v_mt, v_app, v_isi, v_itP, v_itE, v_rev, v_dnil, v_dkv, v_dun, v_dds, w_skip, w_seq, w_ex, w_asg, w_par, w_ite, w_ret, w_retN, Ev.R.c1, Ev.R.ca, Ev.R.cl, Ev.R.co, Ev.R.ci, Ev.R.cf, Ev.R.fl, slot, rd, Ev.Slot.d, tests, truD, tk, tkAll, rdAll, tkFr, tkS1, tkSl, parG, ofOpt, asgT, Ev.T.count, asgG, Ev.asgG.asgGs, putS, runCall, lendOk, mems, argsOf, argOf, outsTo, outsOf, finish, walkOf, itemsD, needLock, lock, Ev.F.unlock, unlock, hide, testOf, permD, binD, intD, addD, itemD, setD, biD, b_lenL, b_lenT, nats_length, bInt, bList, b_tupL, b_tupT, b_sortD, b_sortN, isiD, c_lt, c_le, c_gt, c_ge, c_eqI, c_neI, c_inL, c_inT, c_ninL, c_ninT, c_inD, len_dictN, List.map_cons, List.map_nil, List.length_cons, List.length_nil, List.replicate_succ, List.replicate_zero, List.cons_append, List.nil_append, List.append_nil, List.getElem?_cons_zero, List.getElem?_cons_succ, List.set_cons_zero, List.set_cons_succ, Option.map_some, Option.map_none, Option.bind_some, Option.any_some, bes (n + 2) k hk2]) (by simp [Is, v_nil, v_cons, v_star, v_bor, v_lend, v_var, v_give, v_int, v_bl, v_non, v_str, v_glob, v_bin, v_neg, v_not, v_cmp, v_cmp2, v_and, v_or, v_ite, v_tup, v_lst, v_ix, v_sl, v_call, v_callK, v_bi, v_divmod, v_mt, v_app, v_isi, v_itP, v_itE, v_rev, v_dnil, v_dkv, v_dun, v_dds, w_skip, w_seq, w_ex, w_asg, w_par, w_ite, w_ret, w_retN, Ev.R.c1, Ev.R.ca, Ev.R.cl, Ev.R.co, Ev.R.ci, Ev.R.cf, Ev.R.fl, slot, rd, Ev.Slot.d, tests, truD, tk, tkAll, rdAll, tkFr, tkS1, tkSl, parG, ofOpt, asgT, Ev.T.count, asgG, Ev.asgG.asgGs, putS, runCall, lendOk, mems, argsOf, argOf, outsTo, outsOf, finish, walkOf, itemsD, needLock, lock, Ev.F.unlock, unlock, hide, testOf, permD, binD, intD, addD, itemD, setD, biD, b_lenL, b_lenT, nats_length, bInt, bList, b_tupL, b_tupT, b_sortD, b_sortN, isiD, c_lt, c_le, c_gt, c_ge, c_eqI, c_neI, c_inL, c_inT, c_ninL, c_ninT, c_inD, len_dictN, List.map_cons, List.map_nil, List.length_cons, List.length_nil, List.replicate_succ, List.replicate_zero, List.cons_append, List.nil_append, List.append_nil, List.getElem?_cons_zero, List.getElem?_cons_succ, List.set_cons_zero, List.set_cons_succ, Option.map_some, Option.map_none, Option.bind_some, Option.any_some, bes (n + 2) k hk2]) (by simp [Is, v_nil, v_cons, v_star, v_bor, v_lend, v_var, v_give, v_int, v_bl, v_non, v_str, v_glob, v_bin, v_neg, v_not, v_cmp, v_cmp2, v_and, v_or, v_ite, v_tup, v_lst, v_ix, v_sl, v_call, v_callK, v_bi, v_divmod, v_mt, v_app, v_isi, v_itP, v_itE, v_rev, v_dnil, v_dkv, v_dun, v_dds, w_skip, w_seq, w_ex, w_asg, w_par, w_ite, w_ret, w_retN, Ev.R.c1, Ev.R.ca, Ev.R.cl, Ev.R.co, Ev.R.ci, Ev.R.cf, Ev.R.fl, slot, rd, Ev.Slot.d, tests, truD, tk, tkAll, rdAll, tkFr, tkS1, tkSl, parG, ofOpt, asgT, Ev.T.count, asgG, Ev.asgG.asgGs, putS, runCall, lendOk, mems, argsOf, argOf, outsTo, outsOf, finish, walkOf, itemsD, needLock, lock, Ev.F.unlock, unlock, hide, testOf, permD, binD, intD, addD, itemD, setD, biD, b_lenL, b_lenT, nats_length, bInt, bList, b_tupL, b_tupT, b_sortD, b_sortN, isiD, c_lt, c_le, c_gt, c_ge, c_eqI, c_neI, c_inL, c_inT, c_ninL, c_ninT, c_inD, len_dictN, List.map_cons, List.map_nil, List.length_cons, List.length_nil, List.replicate_succ, List.replicate_zero, List.cons_append, List.nil_append, List.append_nil, List.getElem?_cons_zero, List.getElem?_cons_succ, List.set_cons_zero, List.set_cons_succ, Option.map_some, Option.map_none, Option.bind_some, Option.any_some]) (by simp [Is, v_nil, v_cons, v_star, v_bor, v_lend, v_var, v_give, v_int, v_bl, v_non, v_str, v_glob, v_bin, v_neg, v_not, v_cmp, v_cmp2, v_and, v_or, v_ite, v_tup, v_lst, v_ix, v_sl, v_call, v_callK, v_bi, v_divmod, v_mt, v_app, v_isi, v_itP, v_itE, v_rev, v_dnil, v_dkv, v_dun, v_dds, w_skip, w_seq, w_ex, w_asg, w_par, w_ite, w_ret, w_retN, Ev.R.c1, Ev.R.ca, Ev.R.cl, Ev.R.co, Ev.R.ci, Ev.R.cf, Ev.R.fl, slot, rd, Ev.Slot.d, tests, truD, tk, tkAll, rdAll, tkFr, tkS1, tkSl, parG, ofOpt, asgT, Ev.T.count, asgG, Ev.asgG.asgGs, putS, runCall, lendOk, mems, argsOf, argOf, outsTo, outsOf, finish, walkOf, itemsD, needLock, lock, Ev.F.unlock, unlock, hide, testOf, permD, binD, intD, addD, itemD, setD, biD, b_lenL, b_lenT, nats_length, bInt, bList, b_tupL, b_tupT, b_sortD, b_sortN, isiD, c_lt, c_le, c_gt, c_ge, c_eqI, c_neI, c_inL, c_inT, c_ninL, c_ninT, c_inD, len_dictN, List.map_cons, List.map_nil, List.length_cons, List.length_nil, List.replicate_succ, List.replicate_zero, List.cons_append, List.nil_append, List.append_nil, List.getElem?_cons_zero, List.getElem?_cons_succ, List.set_cons_zero, List.set_cons_succ, Option.map_some, Option.map_none, Option.bind_some, Option.any_some]) (by show (P.rep _).isSome = true; rw [Has.rep]; exact rep_near h1 h4 hk2)
      have e6 : ev ⟨callN P (n + 7), P.glob, P.rep⟩ (.lc (.nm 6 false) (.itP (.var 5)) (.cmp (.var 3) (.link .notin (.call 21 (.cons (.var 1) (.cons (.var 6) .nil))) .nil)) (.var 6) [6]) [some (.ln pl), some (.fz (.int (s : Int))), some (.fz (.int ((plT s).length : Nat))), some (.fz (.int (k : Int))), o4, some (.fz (tup (nbOf (nbT s) k))), none]
          = .ok (.fr (.lst [])) [some (.ln pl), some (.fz (.int (s : Int))), some (.fz (.int ((plT s).length : Nat))), some (.fz (.int (k : Int))), o4, some (.fz (tup (nbOf (nbT s) k))), none] := by
        have hlen : (nbOf (nbT s) k).length ≤ 6 := by
          unfold nbOf
          rw [List.getD_eq_getElem?_getD, List.getElem?_eq_getElem hk3]
          have := List.all_eq_true.mp k6 _ (List.getElem_mem hk3)
          simpa using this
        refine (lc_is (T := fun k : Nat => D.int (k : Int)) (b := fun _ => false) (f := fun k : Nat => D.int (k : Int)) (l := nbOf (nbT s) k) (by simp [v_nil, v_cons, v_star, v_bor, v_lend, v_var, v_give, v_int, v_bl, v_non, v_str, v_glob, v_bin, v_neg, v_not, v_cmp, v_cmp2, v_and, v_or, v_ite, v_tup, v_lst, v_ix, v_sl, v_call, v_callK, v_bi, v_divmod, v_mt, v_app, v_isi, v_itP, v_itE, v_rev, v_dnil, v_dkv, v_dun, v_dds, w_skip, w_seq, w_ex, w_asg, w_par, w_ite, w_ret, w_retN, Ev.R.c1, Ev.R.ca, Ev.R.cl, Ev.R.co, Ev.R.ci, Ev.R.cf, Ev.R.fl, slot, rd, Ev.Slot.d, tests, truD, tk, tkAll, rdAll, tkFr, tkS1, tkSl, parG, ofOpt, asgT, Ev.T.count, asgG, Ev.asgG.asgGs, putS, runCall, lendOk, mems, argsOf, argOf, outsTo, outsOf, finish, walkOf, itemsD, needLock, lock, Ev.F.unlock, unlock, hide, testOf, permD, binD, intD, addD, itemD, setD, biD, b_lenL, b_lenT, nats_length, bInt, bList, b_tupL, b_tupT, b_sortD, b_sortN, isiD, c_lt, c_le, c_gt, c_ge, c_eqI, c_neI, c_inL, c_inT, c_ninL, c_ninT, c_inD, len_dictN, List.map_cons, List.map_nil, List.length_cons, List.length_nil, List.replicate_succ, List.replicate_zero, List.cons_append, List.nil_append, List.append_nil, List.getElem?_cons_zero, List.getElem?_cons_succ, List.set_cons_zero, List.set_cons_succ, Option.map_some, Option.map_none, Option.bind_some, Option.any_some, tup, nats]) (fun y hy => ⟨[some (.ln pl), some (.fz (.int (s : Int))), some (.fz (.int ((plT s).length : Nat))), some (.fz (.int (k : Int))), o4, some (.fz (tup (nbOf (nbT s) k))), some (.fz (.int (y : Int)))], rfl, rfl, ?_, fun z => nomatch z⟩) (by unfold LIM; omega)).trans (by simp)
        obtain ⟨y1, y2⟩ := sym_of k4 hk3 hy
        have e7 := c_ninT k (nbOf (nbT s) y)
        rw [show (!decide (k ∈ nbOf (nbT s) y)) = false by simp [y2]] at e7
        have b7 := bes (n + 2) y (by omega)
        unfold tup at b7
        simp [Is, v_nil, v_cons, v_star, v_bor, v_lend, v_var, v_give, v_int, v_bl, v_non, v_str, v_glob, v_bin, v_neg, v_not, v_cmp, v_cmp2, v_and, v_or, v_ite, v_tup, v_lst, v_ix, v_sl, v_call, v_callK, v_bi, v_divmod, v_mt, v_app, v_isi, v_itP, v_itE, v_rev, v_dnil, v_dkv, v_dun, v_dds, w_skip, w_seq, w_ex, w_asg, w_par, w_ite, w_ret, w_retN, Ev.R.c1, Ev.R.ca, Ev.R.cl, Ev.R.co, Ev.R.ci, Ev.R.cf, Ev.R.fl, slot, rd, Ev.Slot.d, tests, truD, tk, tkAll, rdAll, tkFr, tkS1, tkSl, parG, ofOpt, asgT, Ev.T.count, asgG, Ev.asgG.asgGs, putS, runCall, lendOk, mems, argsOf, argOf, outsTo, outsOf, finish, walkOf, itemsD, needLock, lock, Ev.F.unlock, unlock, hide, testOf, permD, binD, intD, addD, itemD, setD, biD, b_lenL, b_lenT, nats_length, bInt, bList, b_tupL, b_tupT, b_sortD, b_sortN, isiD, c_lt, c_le, c_gt, c_ge, c_eqI, c_neI, c_inL, c_inT, c_ninL, c_ninT, c_inD, len_dictN, List.map_cons, List.map_nil, List.length_cons, List.length_nil, List.replicate_succ, List.replicate_zero, List.cons_append, List.nil_append, List.append_nil, List.getElem?_cons_zero, List.getElem?_cons_succ, List.set_cons_zero, List.set_cons_succ, Option.map_some, Option.map_none, Option.bind_some, Option.any_some, b7, e7]
      refine (seq_nx s5).trans ((ite_no (ρ1 := [some (.ln pl), some (.fz (.int (s : Int))), some (.fz (.int ((plT s).length : Nat))), some (.fz (.int (k : Int))), o4, some (.fz (tup (nbOf (nbT s) k))), none]) ?_).trans w_skip)
      rw [v_or, r1]
      simp [v_nil, v_cons, v_star, v_bor, v_lend, v_var, v_give, v_int, v_bl, v_non, v_str, v_glob, v_bin, v_neg, v_not, v_cmp, v_cmp2, v_and, v_or, v_ite, v_tup, v_lst, v_ix, v_sl, v_call, v_callK, v_bi, v_divmod, v_mt, v_app, v_isi, v_itP, v_itE, v_rev, v_dnil, v_dkv, v_dun, v_dds, w_skip, w_seq, w_ex, w_asg, w_par, w_ite, w_ret, w_retN, Ev.R.c1, Ev.R.ca, Ev.R.cl, Ev.R.co, Ev.R.ci, Ev.R.cf, Ev.R.fl, slot, rd, Ev.Slot.d, tests, truD, tk, tkAll, rdAll, tkFr, tkS1, tkSl, parG, ofOpt, asgT, Ev.T.count, asgG, Ev.asgG.asgGs, putS, runCall, lendOk, mems, argsOf, argOf, outsTo, outsOf, finish, walkOf, itemsD, needLock, lock, Ev.F.unlock, unlock, hide, testOf, permD, binD, intD, addD, itemD, setD, biD, b_lenL, b_lenT, nats_length, bInt, bList, b_tupL, b_tupT, b_sortD, b_sortN, isiD, c_lt, c_le, c_gt, c_ge, c_eqI, c_neI, c_inL, c_inT, c_ninL, c_ninT, c_inD, len_dictN, List.map_cons, List.map_nil, List.length_cons, List.length_nil, List.replicate_succ, List.replicate_zero, List.cons_append, List.nil_append, List.append_nil, List.getElem?_cons_zero, List.getElem?_cons_succ, List.set_cons_zero, List.set_cons_succ, Option.map_some, Option.map_none, Option.bind_some, Option.any_some, e6, c_ne00]
end K75
end

section
set_option Elab.async false
set_option linter.all false
set_option maxRecDepth 1000000
set_option maxHeartbeats 0
/-! ### law k75, a side's lots -/
namespace K75
open Ev
variable {P : Prog} [Has P] [Tab P]
theorem lot_turn (n s : Nat) (h1 : 1 ≤ s) (h4 : s ≤ 4) (pl : D) (L : List (List Nat)) (hL : ∀ lot ∈ L, Up lot ∧ ∀ x ∈ lot, x < (plT s).length) (o3 o4 o5 : Option Slot) (f3 : FzO o3) (f4 : FzO o4) (f5 : FzO o5) : ∃ o4' o5', FzO o4' ∧ FzO o5' ∧
    forGo (.nm 4 false) (fun ρ => evS ⟨callN P (n + 7), P.glob, P.rep⟩ P.fuel (.seq (.asg (.nm 5 false) (.and (.call 28 (.cons (.var 1) (.cons (.var 4) .nil))) (.call 29 (.cons (.var 1) (.cons (.var 4) .nil))))) (.ite (.cmp (.bi .repr (.cons (.lst (.cons (.call 22 (.cons (.var 1) (.cons (.var 4) .nil))) (.cons (.callK 22 (.cons (.var 4) (.cons (.var 1) .nil)) [1, 0]) .nil))) .nil)) (.link .ne (.bi .repr (.cons (.lst (.cons (.var 5) (.cons (.var 5) .nil))) .nil)) .nil)) (.ret (.bl false)) .skip)) ρ) (tups L) [some (.ln pl), some (.fz (.int (s : Int))), some (.fz (.int ((plT s).length : Nat))), o3, o4, o5, none]
      = .nx [some (.ln pl), some (.fz (.int (s : Int))), some (.fz (.int ((plT s).length : Nat))), o3, o4', o5', none] := by
  have lp := forGo_list (g := .nm 4 false) (body := fun ρ => evS ⟨callN P (n + 7), P.glob, P.rep⟩ P.fuel (.seq (.asg (.nm 5 false) (.and (.call 28 (.cons (.var 1) (.cons (.var 4) .nil))) (.call 29 (.cons (.var 1) (.cons (.var 4) .nil))))) (.ite (.cmp (.bi .repr (.cons (.lst (.cons (.call 22 (.cons (.var 1) (.cons (.var 4) .nil))) (.cons (.callK 22 (.cons (.var 4) (.cons (.var 1) .nil)) [1, 0]) .nil))) .nil)) (.link .ne (.bi .repr (.cons (.lst (.cons (.var 5) (.cons (.var 5) .nil))) .nil)) .nil)) (.ret (.bl false)) .skip)) ρ)
    (fun _ ρ => ∃ o4 o5, FzO o4 ∧ FzO o5 ∧ ρ = [some (.ln pl), some (.fz (.int (s : Int))), some (.fz (.int ((plT s).length : Nat))), o3, o4, o5, none])
    (tups L) [some (.ln pl), some (.fz (.int (s : Int))), some (.fz (.int ((plT s).length : Nat))), o3, o4, o5, none] ⟨o4, o5, f4, f5, rfl⟩ (fun i x ρ hx ⟨o4, o5, f4, f5, e⟩ => ?_)
  · obtain ⟨ρ', q1, o4', o5', f4', f5', rfl⟩ := lp
    exact ⟨o4', o5', f4', f5', q1⟩
  · subst e
    obtain ⟨lot, hlot, rfl⟩ : ∃ lot ∈ L, x = tup lot := by
      have := List.mem_of_getElem? hx
      unfold tups at this
      obtain ⟨lot, h, e⟩ := List.mem_map.mp this
      exact ⟨lot, h, e.symm⟩
    obtain ⟨hu, hm⟩ := hL lot hlot
    have e1 := hangs_ok (P := P) (n + 4) s h1 h4 lot hu hm
    have e2 := lawMeets_ok (P := P) (n + 5) s h1 h4 lot hu hm
    have e3 := meetsAll_ok (P := P) (n + 1) s h1 h4 lot hu hm
    have e4 : meetsB s lot = (hangB (nbT s) lot && meetsL s lot) := by unfold meetsB; rw [sides_same h1 h4 hm]
    refine ⟨[some (.ln pl), some (.fz (.int (s : Int))), some (.fz (.int ((plT s).length : Nat))), o3, some (.fz (tup lot)), o5, none], ?_, [some (.ln pl), some (.fz (.int (s : Int))), some (.fz (.int ((plT s).length : Nat))), o3, some (.fz (tup lot)), some (.fz (.bl (meetsB s lot))), none], .inl ?_, _, _, FzO.fz _, FzO.fz _, rfl⟩
    · rcases f4 with rfl | ⟨d, rfl⟩ <;> simp [v_nil, v_cons, v_star, v_bor, v_lend, v_var, v_give, v_int, v_bl, v_non, v_str, v_glob, v_bin, v_neg, v_not, v_cmp, v_cmp2, v_and, v_or, v_ite, v_tup, v_lst, v_ix, v_sl, v_call, v_callK, v_bi, v_divmod, v_mt, v_app, v_isi, v_itP, v_itE, v_rev, v_dnil, v_dkv, v_dun, v_dds, w_skip, w_seq, w_ex, w_asg, w_par, w_ite, w_ret, w_retN, Ev.R.c1, Ev.R.ca, Ev.R.cl, Ev.R.co, Ev.R.ci, Ev.R.cf, Ev.R.fl, slot, rd, Ev.Slot.d, tests, truD, tk, tkAll, rdAll, tkFr, tkS1, tkSl, parG, ofOpt, asgT, Ev.T.count, asgG, Ev.asgG.asgGs, putS, runCall, lendOk, mems, argsOf, argOf, outsTo, outsOf, finish, walkOf, itemsD, needLock, lock, Ev.F.unlock, unlock, hide, testOf, permD, binD, intD, addD, itemD, setD, biD, b_lenL, b_lenT, nats_length, bInt, bList, b_tupL, b_tupT, b_sortD, b_sortN, isiD, c_lt, c_le, c_gt, c_ge, c_eqI, c_neI, c_inL, c_inT, c_ninL, c_ninT, c_inD, len_dictN, List.map_cons, List.map_nil, List.length_cons, List.length_nil, List.replicate_succ, List.replicate_zero, List.cons_append, List.nil_append, List.append_nil, List.getElem?_cons_zero, List.getElem?_cons_succ, List.set_cons_zero, List.set_cons_succ, Option.map_some, Option.map_none, Option.bind_some, Option.any_some]
    · have s5 : evS ⟨callN P (n + 7), P.glob, P.rep⟩ P.fuel (.asg (.nm 5 false) (.and (.call 28 (.cons (.var 1) (.cons (.var 4) .nil))) (.call 29 (.cons (.var 1) (.cons (.var 4) .nil))))) [some (.ln pl), some (.fz (.int (s : Int))), some (.fz (.int ((plT s).length : Nat))), o3, some (.fz (tup lot)), o5, none]
          = .nx [some (.ln pl), some (.fz (.int (s : Int))), some (.fz (.int ((plT s).length : Nat))), o3, some (.fz (tup lot)), some (.fz (.bl (meetsB s lot))), none] := by
        rw [e4]
        rcases f5 with rfl | ⟨d, rfl⟩ <;> cases c1 : hangB (nbT s) lot <;> (rw [c1] at e1; simp [v_nil, v_cons, v_star, v_bor, v_lend, v_var, v_give, v_int, v_bl, v_non, v_str, v_glob, v_bin, v_neg, v_not, v_cmp, v_cmp2, v_and, v_or, v_ite, v_tup, v_lst, v_ix, v_sl, v_call, v_callK, v_bi, v_divmod, v_mt, v_app, v_isi, v_itP, v_itE, v_rev, v_dnil, v_dkv, v_dun, v_dds, w_skip, w_seq, w_ex, w_asg, w_par, w_ite, w_ret, w_retN, Ev.R.c1, Ev.R.ca, Ev.R.cl, Ev.R.co, Ev.R.ci, Ev.R.cf, Ev.R.fl, slot, rd, Ev.Slot.d, tests, truD, tk, tkAll, rdAll, tkFr, tkS1, tkSl, parG, ofOpt, asgT, Ev.T.count, asgG, Ev.asgG.asgGs, putS, runCall, lendOk, mems, argsOf, argOf, outsTo, outsOf, finish, walkOf, itemsD, needLock, lock, Ev.F.unlock, unlock, hide, testOf, permD, binD, intD, addD, itemD, setD, biD, b_lenL, b_lenT, nats_length, bInt, bList, b_tupL, b_tupT, b_sortD, b_sortN, isiD, c_lt, c_le, c_gt, c_ge, c_eqI, c_neI, c_inL, c_inT, c_ninL, c_ninT, c_inD, len_dictN, List.map_cons, List.map_nil, List.length_cons, List.length_nil, List.replicate_succ, List.replicate_zero, List.cons_append, List.nil_append, List.append_nil, List.getElem?_cons_zero, List.getElem?_cons_succ, List.set_cons_zero, List.set_cons_succ, Option.map_some, Option.map_none, Option.bind_some, Option.any_some, e1, e2])
      have r1 := rep_same (p := ⟨callN P (n + 7), P.glob, P.rep⟩) (a := .call 22 (.cons (.var 1) (.cons (.var 4) .nil))) (b := .callK 22 (.cons (.var 4) (.cons (.var 1) .nil)) [1, 0]) (c := .var 5) (e := .var 5) (ρ := [some (.ln pl), some (.fz (.int (s : Int))), some (.fz (.int ((plT s).length : Nat))), o3, some (.fz (tup lot)), some (.fz (.bl (meetsB s lot))), none]) (d := .bl (meetsB s lot))
        (by simp [Is, v_nil, v_cons, v_star, v_bor, v_lend, v_var, v_give, v_int, v_bl, v_non, v_str, v_glob, v_bin, v_neg, v_not, v_cmp, v_cmp2, v_and, v_or, v_ite, v_tup, v_lst, v_ix, v_sl, v_call, v_callK, v_bi, v_divmod, v_mt, v_app, v_isi, v_itP, v_itE, v_rev, v_dnil, v_dkv, v_dun, v_dds, w_skip, w_seq, w_ex, w_asg, w_par, w_ite, w_ret, w_retN, Ev.R.c1, Ev.R.ca, Ev.R.cl, Ev.R.co, Ev.R.ci, Ev.R.cf, Ev.R.fl, slot, rd, Ev.Slot.d, tests, truD, tk, tkAll, rdAll, tkFr, tkS1, tkSl, parG, ofOpt, asgT, Ev.T.count, asgG, Ev.asgG.asgGs, putS, runCall, lendOk, mems, argsOf, argOf, outsTo, outsOf, finish, walkOf, itemsD, needLock, lock, Ev.F.unlock, unlock, hide, testOf, permD, binD, intD, addD, itemD, setD, biD, b_lenL, b_lenT, nats_length, bInt, bList, b_tupL, b_tupT, b_sortD, b_sortN, isiD, c_lt, c_le, c_gt, c_ge, c_eqI, c_neI, c_inL, c_inT, c_ninL, c_ninT, c_inD, len_dictN, List.map_cons, List.map_nil, List.length_cons, List.length_nil, List.replicate_succ, List.replicate_zero, List.cons_append, List.nil_append, List.append_nil, List.getElem?_cons_zero, List.getElem?_cons_succ, List.set_cons_zero, List.set_cons_succ, Option.map_some, Option.map_none, Option.bind_some, Option.any_some, e3]) (by simp [Is, v_nil, v_cons, v_star, v_bor, v_lend, v_var, v_give, v_int, v_bl, v_non, v_str, v_glob, v_bin, v_neg, v_not, v_cmp, v_cmp2, v_and, v_or, v_ite, v_tup, v_lst, v_ix, v_sl, v_call, v_callK, v_bi, v_divmod, v_mt, v_app, v_isi, v_itP, v_itE, v_rev, v_dnil, v_dkv, v_dun, v_dds, w_skip, w_seq, w_ex, w_asg, w_par, w_ite, w_ret, w_retN, Ev.R.c1, Ev.R.ca, Ev.R.cl, Ev.R.co, Ev.R.ci, Ev.R.cf, Ev.R.fl, slot, rd, Ev.Slot.d, tests, truD, tk, tkAll, rdAll, tkFr, tkS1, tkSl, parG, ofOpt, asgT, Ev.T.count, asgG, Ev.asgG.asgGs, putS, runCall, lendOk, mems, argsOf, argOf, outsTo, outsOf, finish, walkOf, itemsD, needLock, lock, Ev.F.unlock, unlock, hide, testOf, permD, binD, intD, addD, itemD, setD, biD, b_lenL, b_lenT, nats_length, bInt, bList, b_tupL, b_tupT, b_sortD, b_sortN, isiD, c_lt, c_le, c_gt, c_ge, c_eqI, c_neI, c_inL, c_inT, c_ninL, c_ninT, c_inD, len_dictN, List.map_cons, List.map_nil, List.length_cons, List.length_nil, List.replicate_succ, List.replicate_zero, List.cons_append, List.nil_append, List.append_nil, List.getElem?_cons_zero, List.getElem?_cons_succ, List.set_cons_zero, List.set_cons_succ, Option.map_some, Option.map_none, Option.bind_some, Option.any_some, e3]) (by simp [Is, v_nil, v_cons, v_star, v_bor, v_lend, v_var, v_give, v_int, v_bl, v_non, v_str, v_glob, v_bin, v_neg, v_not, v_cmp, v_cmp2, v_and, v_or, v_ite, v_tup, v_lst, v_ix, v_sl, v_call, v_callK, v_bi, v_divmod, v_mt, v_app, v_isi, v_itP, v_itE, v_rev, v_dnil, v_dkv, v_dun, v_dds, w_skip, w_seq, w_ex, w_asg, w_par, w_ite, w_ret, w_retN, Ev.R.c1, Ev.R.ca, Ev.R.cl, Ev.R.co, Ev.R.ci, Ev.R.cf, Ev.R.fl, slot, rd, Ev.Slot.d, tests, truD, tk, tkAll, rdAll, tkFr, tkS1, tkSl, parG, ofOpt, asgT, Ev.T.count, asgG, Ev.asgG.asgGs, putS, runCall, lendOk, mems, argsOf, argOf, outsTo, outsOf, finish, walkOf, itemsD, needLock, lock, Ev.F.unlock, unlock, hide, testOf, permD, binD, intD, addD, itemD, setD, biD, b_lenL, b_lenT, nats_length, bInt, bList, b_tupL, b_tupT, b_sortD, b_sortN, isiD, c_lt, c_le, c_gt, c_ge, c_eqI, c_neI, c_inL, c_inT, c_ninL, c_ninT, c_inD, len_dictN, List.map_cons, List.map_nil, List.length_cons, List.length_nil, List.replicate_succ, List.replicate_zero, List.cons_append, List.nil_append, List.append_nil, List.getElem?_cons_zero, List.getElem?_cons_succ, List.set_cons_zero, List.set_cons_succ, Option.map_some, Option.map_none, Option.bind_some, Option.any_some]) (by simp [Is, v_nil, v_cons, v_star, v_bor, v_lend, v_var, v_give, v_int, v_bl, v_non, v_str, v_glob, v_bin, v_neg, v_not, v_cmp, v_cmp2, v_and, v_or, v_ite, v_tup, v_lst, v_ix, v_sl, v_call, v_callK, v_bi, v_divmod, v_mt, v_app, v_isi, v_itP, v_itE, v_rev, v_dnil, v_dkv, v_dun, v_dds, w_skip, w_seq, w_ex, w_asg, w_par, w_ite, w_ret, w_retN, Ev.R.c1, Ev.R.ca, Ev.R.cl, Ev.R.co, Ev.R.ci, Ev.R.cf, Ev.R.fl, slot, rd, Ev.Slot.d, tests, truD, tk, tkAll, rdAll, tkFr, tkS1, tkSl, parG, ofOpt, asgT, Ev.T.count, asgG, Ev.asgG.asgGs, putS, runCall, lendOk, mems, argsOf, argOf, outsTo, outsOf, finish, walkOf, itemsD, needLock, lock, Ev.F.unlock, unlock, hide, testOf, permD, binD, intD, addD, itemD, setD, biD, b_lenL, b_lenT, nats_length, bInt, bList, b_tupL, b_tupT, b_sortD, b_sortN, isiD, c_lt, c_le, c_gt, c_ge, c_eqI, c_neI, c_inL, c_inT, c_ninL, c_ninT, c_inD, len_dictN, List.map_cons, List.map_nil, List.length_cons, List.length_nil, List.replicate_succ, List.replicate_zero, List.cons_append, List.nil_append, List.append_nil, List.getElem?_cons_zero, List.getElem?_cons_succ, List.set_cons_zero, List.set_cons_succ, Option.map_some, Option.map_none, Option.bind_some, Option.any_some]) (by show (P.rep _).isSome = true; rw [Has.rep]; exact rep_bools _)
      exact (seq_nx s5).trans ((ite_no (ρ1 := [some (.ln pl), some (.fz (.int (s : Int))), some (.fz (.int ((plT s).length : Nat))), o3, some (.fz (tup lot)), some (.fz (.bl (meetsB s lot))), none]) r1).trans w_skip)
theorem lsC {p : Par} {a b : Ev.E} {ρ ρ1 ρ2 : Env} {x : D} {l : List Rs} (ha : ev p a ρ = .ok (.fz x) ρ1) (hb : ev p b ρ1 = .ok (.ls l) ρ2) : ev p (.cons a b) ρ = .ok (.ls (.fz x :: l)) ρ2 := by
  rw [v_cons, ha]
  show (ev p b ρ1).cl _ = _
  rw [hb]
  rfl
theorem tkAll_fz (ρ : Env) : ∀ ds : List D, tkAll (ds.map Rs.fz) ρ = some (ds, ρ)
  | [] => rfl
  | d :: ds => by
    rw [List.map_cons, tkAll]
    simp [tk, tkAll_fz ρ ds]
theorem itP_lst {p : Par} {e : Ev.E} {ρ ρ1 : Env} {ds : List D} (h : ev p e ρ = .ok (.ls (ds.map Rs.fz)) ρ1) (hl : ds.length ≤ LIM) : ev p (.itP (.lst e)) ρ = .ok (.its ds none) ρ1 := by
  rw [v_itP, v_lst, h]
  simp [R.cl, R.c1, tkAll_fz, hl, walkOf, rd, itemsD]
/-- the lots themselves -/
theorem lots_ok (n s : Nat) (h1 : 1 ≤ s) (h4 : s ≤ 4) (a b c : Int) (hb : 0 ≤ b) (o3 o4 o5 : Option Slot) : ∃ (L : List (List Nat)) (a' b' c' : Int), (∀ lot ∈ L, Up lot ∧ ∀ x ∈ lot, x < (plT s).length) ∧ 0 ≤ b' ∧
    ev ⟨callN P (n + 7), P.glob, P.rep⟩ (.itP (.lst (.cons (.call 31 (.cons (.lend 0) (.cons (.var 1) (.cons (.var 2) .nil)))) (.cons (.call 31 (.cons (.lend 0) (.cons (.var 1) (.cons (.var 2) .nil)))) (.cons (.call 30 (.cons (.lend 0) (.cons (.var 2) .nil))) (.cons (.call 30 (.cons (.lend 0) (.cons (.var 2) .nil))) (.cons (.tup .nil) (.cons (.trng (.cons (.var 2) .nil)) (.cons (.tup (.cons (.int 0) .nil)) .nil))))))))) [some (.ln (pool a b c)), some (.fz (.int (s : Int))), some (.fz (.int ((plT s).length : Nat))), o3, o4, o5, none]
      = .ok (.its (tups L) none) [some (.ln (pool a' b' c')), some (.fz (.int (s : Int))), some (.fz (.int ((plT s).length : Nat))), o3, o4, o5, none] := by
  obtain ⟨k1, k2, k3, k4, k5, k6⟩ := nb_len h1 h4
  have hn : ∀ c, (nbOf (nbT s) c).length ≤ 100 := fun c => by
    unfold nbOf
    rw [List.getD_eq_getElem?_getD]
    cases q : (nbT s)[c]? with
    | none => simp
    | some l =>
      have := List.all_eq_true.mp k6 _ (List.mem_of_getElem? q)
      simp at this ⊢
      omega
  have near := fun (m c : Nat) (h : c < (plT s).length) => Tab.near (P := P) m s c (by omega)
  obtain ⟨l1, a1, b1, c1, u1, m1, g1, e1⟩ := lawGrown_ok (P := P) (n + 4) a b c hb s (plT s).length k3 (by omega) (nbOf (nbT s)) hn near
  obtain ⟨l2, a2, b2, c2, u2, m2, g2, e2⟩ := lawGrown_ok (P := P) (n + 4) a1 b1 c1 g1 s (plT s).length k3 (by omega) (nbOf (nbT s)) hn near
  obtain ⟨l3, a3, b3, c3, u3, g3, e3⟩ := fill_ok (P := P) (n + 5) a2 b2 c2 g2 (plT s).length (by omega)
  obtain ⟨l4, a4, b4, c4, u4, g4, e4⟩ := fill_ok (P := P) (n + 5) a3 b3 c3 g3 (plT s).length (by omega)
  refine ⟨[l1, l2, l3, l4, [], List.range (plT s).length, [0]], a4, b4, c4, ?_, g4, ?_⟩
  · intro lot h
    simp only [List.mem_cons, List.not_mem_nil, or_false] at h
    rcases h with rfl | rfl | rfl | rfl | rfl | rfl | rfl
    · exact ⟨u1, m1⟩
    · exact ⟨u2, m2⟩
    · exact sublist_up u3
    · exact sublist_up u4
    · exact ⟨List.Pairwise.nil, fun x h => nomatch h⟩
    · exact ⟨range_up _, fun x h => List.mem_range.mp h⟩
    · exact ⟨List.pairwise_singleton _ _, fun x h => by rw [List.mem_singleton.mp h]; exact k3⟩
  · have tr := trng1 (p := ⟨callN P (n + 7), P.glob, P.rep⟩) (e := .var 2) (r := .sl 2) (n := (plT s).length) (ρ := [some (.ln (pool a4 b4 c4)), some (.fz (.int (s : Int))), some (.fz (.int ((plT s).length : Nat))), o3, o4, o5, none]) (ρ1 := [some (.ln (pool a4 b4 c4)), some (.fz (.int (s : Int))), some (.fz (.int ((plT s).length : Nat))), o3, o4, o5, none]) (by simp [v_nil, v_cons, v_star, v_bor, v_lend, v_var, v_give, v_int, v_bl, v_non, v_str, v_glob, v_bin, v_neg, v_not, v_cmp, v_cmp2, v_and, v_or, v_ite, v_tup, v_lst, v_ix, v_sl, v_call, v_callK, v_bi, v_divmod, v_mt, v_app, v_isi, v_itP, v_itE, v_rev, v_dnil, v_dkv, v_dun, v_dds, w_skip, w_seq, w_ex, w_asg, w_par, w_ite, w_ret, w_retN, Ev.R.c1, Ev.R.ca, Ev.R.cl, Ev.R.co, Ev.R.ci, Ev.R.cf, Ev.R.fl, slot, rd, Ev.Slot.d, tests, truD, tk, tkAll, rdAll, tkFr, tkS1, tkSl, parG, ofOpt, asgT, Ev.T.count, asgG, Ev.asgG.asgGs, putS, runCall, lendOk, mems, argsOf, argOf, outsTo, outsOf, finish, walkOf, itemsD, needLock, lock, Ev.F.unlock, unlock, hide, testOf, permD, binD, intD, addD, itemD, setD, biD, b_lenL, b_lenT, nats_length, bInt, bList, b_tupL, b_tupT, b_sortD, b_sortN, isiD, c_lt, c_le, c_gt, c_ge, c_eqI, c_neI, c_inL, c_inT, c_ninL, c_ninT, c_inD, len_dictN, List.map_cons, List.map_nil, List.length_cons, List.length_nil, List.replicate_succ, List.replicate_zero, List.cons_append, List.nil_append, List.append_nil, List.getElem?_cons_zero, List.getElem?_cons_succ, List.set_cons_zero, List.set_cons_succ, Option.map_some, Option.map_none, Option.bind_some, Option.any_some]) rfl (by omega)
    simp only [Nat.add_assoc, Nat.reduceAdd] at e1 e2 e3 e4
    have f1 : ev ⟨callN P (n + 7), P.glob, P.rep⟩ (.call 31 (.cons (.lend 0) (.cons (.var 1) (.cons (.var 2) .nil)))) [some (.ln (pool a b c)), some (.fz (.int (s : Int))), some (.fz (.int ((plT s).length : Nat))), o3, o4, o5, none] = .ok (.fz (tup l1)) [some (.ln (pool a1 b1 c1)), some (.fz (.int (s : Int))), some (.fz (.int ((plT s).length : Nat))), o3, o4, o5, none] := by
      simp [v_nil, v_cons, v_star, v_bor, v_lend, v_var, v_give, v_int, v_bl, v_non, v_str, v_glob, v_bin, v_neg, v_not, v_cmp, v_cmp2, v_and, v_or, v_ite, v_tup, v_lst, v_ix, v_sl, v_call, v_callK, v_bi, v_divmod, v_mt, v_app, v_isi, v_itP, v_itE, v_rev, v_dnil, v_dkv, v_dun, v_dds, w_skip, w_seq, w_ex, w_asg, w_par, w_ite, w_ret, w_retN, Ev.R.c1, Ev.R.ca, Ev.R.cl, Ev.R.co, Ev.R.ci, Ev.R.cf, Ev.R.fl, slot, rd, Ev.Slot.d, tests, truD, tk, tkAll, rdAll, tkFr, tkS1, tkSl, parG, ofOpt, asgT, Ev.T.count, asgG, Ev.asgG.asgGs, putS, runCall, lendOk, mems, argsOf, argOf, outsTo, outsOf, finish, walkOf, itemsD, needLock, lock, Ev.F.unlock, unlock, hide, testOf, permD, binD, intD, addD, itemD, setD, biD, b_lenL, b_lenT, nats_length, bInt, bList, b_tupL, b_tupT, b_sortD, b_sortN, isiD, c_lt, c_le, c_gt, c_ge, c_eqI, c_neI, c_inL, c_inT, c_ninL, c_ninT, c_inD, len_dictN, List.map_cons, List.map_nil, List.length_cons, List.length_nil, List.replicate_succ, List.replicate_zero, List.cons_append, List.nil_append, List.append_nil, List.getElem?_cons_zero, List.getElem?_cons_succ, List.set_cons_zero, List.set_cons_succ, Option.map_some, Option.map_none, Option.bind_some, Option.any_some, e1]
    have f2 : ev ⟨callN P (n + 7), P.glob, P.rep⟩ (.call 31 (.cons (.lend 0) (.cons (.var 1) (.cons (.var 2) .nil)))) [some (.ln (pool a1 b1 c1)), some (.fz (.int (s : Int))), some (.fz (.int ((plT s).length : Nat))), o3, o4, o5, none] = .ok (.fz (tup l2)) [some (.ln (pool a2 b2 c2)), some (.fz (.int (s : Int))), some (.fz (.int ((plT s).length : Nat))), o3, o4, o5, none] := by
      simp [v_nil, v_cons, v_star, v_bor, v_lend, v_var, v_give, v_int, v_bl, v_non, v_str, v_glob, v_bin, v_neg, v_not, v_cmp, v_cmp2, v_and, v_or, v_ite, v_tup, v_lst, v_ix, v_sl, v_call, v_callK, v_bi, v_divmod, v_mt, v_app, v_isi, v_itP, v_itE, v_rev, v_dnil, v_dkv, v_dun, v_dds, w_skip, w_seq, w_ex, w_asg, w_par, w_ite, w_ret, w_retN, Ev.R.c1, Ev.R.ca, Ev.R.cl, Ev.R.co, Ev.R.ci, Ev.R.cf, Ev.R.fl, slot, rd, Ev.Slot.d, tests, truD, tk, tkAll, rdAll, tkFr, tkS1, tkSl, parG, ofOpt, asgT, Ev.T.count, asgG, Ev.asgG.asgGs, putS, runCall, lendOk, mems, argsOf, argOf, outsTo, outsOf, finish, walkOf, itemsD, needLock, lock, Ev.F.unlock, unlock, hide, testOf, permD, binD, intD, addD, itemD, setD, biD, b_lenL, b_lenT, nats_length, bInt, bList, b_tupL, b_tupT, b_sortD, b_sortN, isiD, c_lt, c_le, c_gt, c_ge, c_eqI, c_neI, c_inL, c_inT, c_ninL, c_ninT, c_inD, len_dictN, List.map_cons, List.map_nil, List.length_cons, List.length_nil, List.replicate_succ, List.replicate_zero, List.cons_append, List.nil_append, List.append_nil, List.getElem?_cons_zero, List.getElem?_cons_succ, List.set_cons_zero, List.set_cons_succ, Option.map_some, Option.map_none, Option.bind_some, Option.any_some, e2]
    have f3 : ev ⟨callN P (n + 7), P.glob, P.rep⟩ (.call 30 (.cons (.lend 0) (.cons (.var 2) .nil))) [some (.ln (pool a2 b2 c2)), some (.fz (.int (s : Int))), some (.fz (.int ((plT s).length : Nat))), o3, o4, o5, none] = .ok (.fz (tup l3)) [some (.ln (pool a3 b3 c3)), some (.fz (.int (s : Int))), some (.fz (.int ((plT s).length : Nat))), o3, o4, o5, none] := by
      simp [v_nil, v_cons, v_star, v_bor, v_lend, v_var, v_give, v_int, v_bl, v_non, v_str, v_glob, v_bin, v_neg, v_not, v_cmp, v_cmp2, v_and, v_or, v_ite, v_tup, v_lst, v_ix, v_sl, v_call, v_callK, v_bi, v_divmod, v_mt, v_app, v_isi, v_itP, v_itE, v_rev, v_dnil, v_dkv, v_dun, v_dds, w_skip, w_seq, w_ex, w_asg, w_par, w_ite, w_ret, w_retN, Ev.R.c1, Ev.R.ca, Ev.R.cl, Ev.R.co, Ev.R.ci, Ev.R.cf, Ev.R.fl, slot, rd, Ev.Slot.d, tests, truD, tk, tkAll, rdAll, tkFr, tkS1, tkSl, parG, ofOpt, asgT, Ev.T.count, asgG, Ev.asgG.asgGs, putS, runCall, lendOk, mems, argsOf, argOf, outsTo, outsOf, finish, walkOf, itemsD, needLock, lock, Ev.F.unlock, unlock, hide, testOf, permD, binD, intD, addD, itemD, setD, biD, b_lenL, b_lenT, nats_length, bInt, bList, b_tupL, b_tupT, b_sortD, b_sortN, isiD, c_lt, c_le, c_gt, c_ge, c_eqI, c_neI, c_inL, c_inT, c_ninL, c_ninT, c_inD, len_dictN, List.map_cons, List.map_nil, List.length_cons, List.length_nil, List.replicate_succ, List.replicate_zero, List.cons_append, List.nil_append, List.append_nil, List.getElem?_cons_zero, List.getElem?_cons_succ, List.set_cons_zero, List.set_cons_succ, Option.map_some, Option.map_none, Option.bind_some, Option.any_some, e3]
    have f4 : ev ⟨callN P (n + 7), P.glob, P.rep⟩ (.call 30 (.cons (.lend 0) (.cons (.var 2) .nil))) [some (.ln (pool a3 b3 c3)), some (.fz (.int (s : Int))), some (.fz (.int ((plT s).length : Nat))), o3, o4, o5, none] = .ok (.fz (tup l4)) [some (.ln (pool a4 b4 c4)), some (.fz (.int (s : Int))), some (.fz (.int ((plT s).length : Nat))), o3, o4, o5, none] := by
      simp [v_nil, v_cons, v_star, v_bor, v_lend, v_var, v_give, v_int, v_bl, v_non, v_str, v_glob, v_bin, v_neg, v_not, v_cmp, v_cmp2, v_and, v_or, v_ite, v_tup, v_lst, v_ix, v_sl, v_call, v_callK, v_bi, v_divmod, v_mt, v_app, v_isi, v_itP, v_itE, v_rev, v_dnil, v_dkv, v_dun, v_dds, w_skip, w_seq, w_ex, w_asg, w_par, w_ite, w_ret, w_retN, Ev.R.c1, Ev.R.ca, Ev.R.cl, Ev.R.co, Ev.R.ci, Ev.R.cf, Ev.R.fl, slot, rd, Ev.Slot.d, tests, truD, tk, tkAll, rdAll, tkFr, tkS1, tkSl, parG, ofOpt, asgT, Ev.T.count, asgG, Ev.asgG.asgGs, putS, runCall, lendOk, mems, argsOf, argOf, outsTo, outsOf, finish, walkOf, itemsD, needLock, lock, Ev.F.unlock, unlock, hide, testOf, permD, binD, intD, addD, itemD, setD, biD, b_lenL, b_lenT, nats_length, bInt, bList, b_tupL, b_tupT, b_sortD, b_sortN, isiD, c_lt, c_le, c_gt, c_ge, c_eqI, c_neI, c_inL, c_inT, c_ninL, c_ninT, c_inD, len_dictN, List.map_cons, List.map_nil, List.length_cons, List.length_nil, List.replicate_succ, List.replicate_zero, List.cons_append, List.nil_append, List.append_nil, List.getElem?_cons_zero, List.getElem?_cons_succ, List.set_cons_zero, List.set_cons_succ, Option.map_some, Option.map_none, Option.bind_some, Option.any_some, e4]
    have f5 : ev ⟨callN P (n + 7), P.glob, P.rep⟩ (.tup .nil) [some (.ln (pool a4 b4 c4)), some (.fz (.int (s : Int))), some (.fz (.int ((plT s).length : Nat))), o3, o4, o5, none] = .ok (.fz (tup [])) [some (.ln (pool a4 b4 c4)), some (.fz (.int (s : Int))), some (.fz (.int ((plT s).length : Nat))), o3, o4, o5, none] := by
      simp [v_nil, v_cons, v_star, v_bor, v_lend, v_var, v_give, v_int, v_bl, v_non, v_str, v_glob, v_bin, v_neg, v_not, v_cmp, v_cmp2, v_and, v_or, v_ite, v_tup, v_lst, v_ix, v_sl, v_call, v_callK, v_bi, v_divmod, v_mt, v_app, v_isi, v_itP, v_itE, v_rev, v_dnil, v_dkv, v_dun, v_dds, w_skip, w_seq, w_ex, w_asg, w_par, w_ite, w_ret, w_retN, Ev.R.c1, Ev.R.ca, Ev.R.cl, Ev.R.co, Ev.R.ci, Ev.R.cf, Ev.R.fl, slot, rd, Ev.Slot.d, tests, truD, tk, tkAll, rdAll, tkFr, tkS1, tkSl, parG, ofOpt, asgT, Ev.T.count, asgG, Ev.asgG.asgGs, putS, runCall, lendOk, mems, argsOf, argOf, outsTo, outsOf, finish, walkOf, itemsD, needLock, lock, Ev.F.unlock, unlock, hide, testOf, permD, binD, intD, addD, itemD, setD, biD, b_lenL, b_lenT, nats_length, bInt, bList, b_tupL, b_tupT, b_sortD, b_sortN, isiD, c_lt, c_le, c_gt, c_ge, c_eqI, c_neI, c_inL, c_inT, c_ninL, c_ninT, c_inD, len_dictN, List.map_cons, List.map_nil, List.length_cons, List.length_nil, List.replicate_succ, List.replicate_zero, List.cons_append, List.nil_append, List.append_nil, List.getElem?_cons_zero, List.getElem?_cons_succ, List.set_cons_zero, List.set_cons_succ, Option.map_some, Option.map_none, Option.bind_some, Option.any_some, tup, nats]
    have f7 : ev ⟨callN P (n + 7), P.glob, P.rep⟩ (.tup (.cons (.int 0) .nil)) [some (.ln (pool a4 b4 c4)), some (.fz (.int (s : Int))), some (.fz (.int ((plT s).length : Nat))), o3, o4, o5, none] = .ok (.fz (tup [0])) [some (.ln (pool a4 b4 c4)), some (.fz (.int (s : Int))), some (.fz (.int ((plT s).length : Nat))), o3, o4, o5, none] := by
      simp [v_nil, v_cons, v_star, v_bor, v_lend, v_var, v_give, v_int, v_bl, v_non, v_str, v_glob, v_bin, v_neg, v_not, v_cmp, v_cmp2, v_and, v_or, v_ite, v_tup, v_lst, v_ix, v_sl, v_call, v_callK, v_bi, v_divmod, v_mt, v_app, v_isi, v_itP, v_itE, v_rev, v_dnil, v_dkv, v_dun, v_dds, w_skip, w_seq, w_ex, w_asg, w_par, w_ite, w_ret, w_retN, Ev.R.c1, Ev.R.ca, Ev.R.cl, Ev.R.co, Ev.R.ci, Ev.R.cf, Ev.R.fl, slot, rd, Ev.Slot.d, tests, truD, tk, tkAll, rdAll, tkFr, tkS1, tkSl, parG, ofOpt, asgT, Ev.T.count, asgG, Ev.asgG.asgGs, putS, runCall, lendOk, mems, argsOf, argOf, outsTo, outsOf, finish, walkOf, itemsD, needLock, lock, Ev.F.unlock, unlock, hide, testOf, permD, binD, intD, addD, itemD, setD, biD, b_lenL, b_lenT, nats_length, bInt, bList, b_tupL, b_tupT, b_sortD, b_sortN, isiD, c_lt, c_le, c_gt, c_ge, c_eqI, c_neI, c_inL, c_inT, c_ninL, c_ninT, c_inD, len_dictN, List.map_cons, List.map_nil, List.length_cons, List.length_nil, List.replicate_succ, List.replicate_zero, List.cons_append, List.nil_append, List.append_nil, List.getElem?_cons_zero, List.getElem?_cons_succ, List.set_cons_zero, List.set_cons_succ, Option.map_some, Option.map_none, Option.bind_some, Option.any_some, tup, nats, LIM]
    exact itP_lst (ds := tups [l1, l2, l3, l4, [], List.range (plT s).length, [0]]) (lsC f1 (lsC f2 (lsC f3 (lsC f4 (lsC f5 (lsC tr (lsC f7 v_nil))))))) (by show _ ≤ LIM; unfold LIM tups; simp)
end K75
end

section
set_option Elab.async false
set_option linter.all false
set_option maxRecDepth 1000000
set_option maxHeartbeats 0
/-! ### law k75, one script's pool -/
namespace K75
open Ev
variable {P : Prog} [Has P] [Tab P]
theorem side_turn (n s : Nat) (h1 : 1 ≤ s) (h4 : s ≤ 4) (a b c : Int) (hb : 0 ≤ b) (o2 o3 o4 o5 : Option Slot) (f2 : FzO o2) (f3 : FzO o3) (f4 : FzO o4) (f5 : FzO o5) : ∃ (a' b' c' : Int) (o2' o3' o4' o5' : Option Slot), 0 ≤ b' ∧ FzO o2' ∧ FzO o3' ∧ FzO o4' ∧ FzO o5' ∧
    evS ⟨callN P (n + 7), P.glob, P.rep⟩ P.fuel (.seq (.asg (.nm 2 false) (.bi .len (.cons (.call 26 (.cons (.var 1) .nil)) .nil))) (.seq (.ite (.cmp (.bi .repr (.cons (.lst (.cons (.call 20 (.cons (.var 1) .nil)) (.cons (.callK 20 (.cons (.var 1) .nil) [0]) .nil))) .nil)) (.link .ne (.bi .repr (.cons (.lst (.cons (.var 2) (.cons (.var 2) .nil))) .nil)) .nil)) (.ret (.bl false)) .skip) (.seq (.loop (.nm 3 false) (.itR (.cons (.var 2) .nil)) (.seq (.asg (.nm 5 false) (.call 27 (.cons (.var 1) (.cons (.var 3) .nil)))) (.ite (.or (.cmp (.bi .repr (.cons (.lst (.cons (.call 21 (.cons (.var 1) (.cons (.var 3) .nil))) (.cons (.callK 21 (.cons (.var 3) (.cons (.var 1) .nil)) [1, 0]) .nil))) .nil)) (.link .ne (.bi .repr (.cons (.lst (.cons (.var 5) (.cons (.var 5) .nil))) .nil)) .nil)) (.cmp (.lc (.nm 6 false) (.itP (.var 5)) (.cmp (.var 3) (.link .notin (.call 21 (.cons (.var 1) (.cons (.var 6) .nil))) .nil)) (.var 6) [6]) (.link .ne (.lst .nil) .nil))) (.ret (.bl false)) .skip))) (.loop (.nm 4 false) (.itP (.lst (.cons (.call 31 (.cons (.lend 0) (.cons (.var 1) (.cons (.var 2) .nil)))) (.cons (.call 31 (.cons (.lend 0) (.cons (.var 1) (.cons (.var 2) .nil)))) (.cons (.call 30 (.cons (.lend 0) (.cons (.var 2) .nil))) (.cons (.call 30 (.cons (.lend 0) (.cons (.var 2) .nil))) (.cons (.tup .nil) (.cons (.trng (.cons (.var 2) .nil)) (.cons (.tup (.cons (.int 0) .nil)) .nil))))))))) (.seq (.asg (.nm 5 false) (.and (.call 28 (.cons (.var 1) (.cons (.var 4) .nil))) (.call 29 (.cons (.var 1) (.cons (.var 4) .nil))))) (.ite (.cmp (.bi .repr (.cons (.lst (.cons (.call 22 (.cons (.var 1) (.cons (.var 4) .nil))) (.cons (.callK 22 (.cons (.var 4) (.cons (.var 1) .nil)) [1, 0]) .nil))) .nil)) (.link .ne (.bi .repr (.cons (.lst (.cons (.var 5) (.cons (.var 5) .nil))) .nil)) .nil)) (.ret (.bl false)) .skip)))))) [some (.ln (pool a b c)), some (.fz (.int (s : Int))), o2, o3, o4, o5, none]
      = .nx [some (.ln (pool a' b' c')), some (.fz (.int (s : Int))), o2', o3', o4', o5', none] := by
  have pl := Tab.places (P := P) (n + 6) s h1 h4
  have s1 : evS ⟨callN P (n + 7), P.glob, P.rep⟩ P.fuel (.asg (.nm 2 false) (.bi .len (.cons (.call 26 (.cons (.var 1) .nil)) .nil))) [some (.ln (pool a b c)), some (.fz (.int (s : Int))), o2, o3, o4, o5, none]
      = .nx [some (.ln (pool a b c)), some (.fz (.int (s : Int))), some (.fz (.int ((plT s).length : Nat))), o3, o4, o5, none] := by
    rcases f2 with rfl | ⟨d, rfl⟩ <;> simp [v_nil, v_cons, v_star, v_bor, v_lend, v_var, v_give, v_int, v_bl, v_non, v_str, v_glob, v_bin, v_neg, v_not, v_cmp, v_cmp2, v_and, v_or, v_ite, v_tup, v_lst, v_ix, v_sl, v_call, v_callK, v_bi, v_divmod, v_mt, v_app, v_isi, v_itP, v_itE, v_rev, v_dnil, v_dkv, v_dun, v_dds, w_skip, w_seq, w_ex, w_asg, w_par, w_ite, w_ret, w_retN, Ev.R.c1, Ev.R.ca, Ev.R.cl, Ev.R.co, Ev.R.ci, Ev.R.cf, Ev.R.fl, slot, rd, Ev.Slot.d, tests, truD, tk, tkAll, rdAll, tkFr, tkS1, tkSl, parG, ofOpt, asgT, Ev.T.count, asgG, Ev.asgG.asgGs, putS, runCall, lendOk, mems, argsOf, argOf, outsTo, outsOf, finish, walkOf, itemsD, needLock, lock, Ev.F.unlock, unlock, hide, testOf, permD, binD, intD, addD, itemD, setD, biD, b_lenL, b_lenT, nats_length, bInt, bList, b_tupL, b_tupT, b_sortD, b_sortN, isiD, c_lt, c_le, c_gt, c_ge, c_eqI, c_neI, c_inL, c_inT, c_ninL, c_ninT, c_inD, len_dictN, List.map_cons, List.map_nil, List.length_cons, List.length_nil, List.replicate_succ, List.replicate_zero, List.cons_append, List.nil_append, List.append_nil, List.getElem?_cons_zero, List.getElem?_cons_succ, List.set_cons_zero, List.set_cons_succ, Option.map_some, Option.map_none, Option.bind_some, Option.any_some, pl, prs]
  have ce := cellsOf_ok (P := P) (n + 2) s h1 h4
  have r1 := rep_same (p := ⟨callN P (n + 7), P.glob, P.rep⟩) (a := .call 20 (.cons (.var 1) .nil)) (b := .callK 20 (.cons (.var 1) .nil) [0]) (c := .var 2) (e := .var 2) (ρ := [some (.ln (pool a b c)), some (.fz (.int (s : Int))), some (.fz (.int ((plT s).length : Nat))), o3, o4, o5, none]) (d := .int ((plT s).length : Nat))
    (by simp [Is, v_nil, v_cons, v_star, v_bor, v_lend, v_var, v_give, v_int, v_bl, v_non, v_str, v_glob, v_bin, v_neg, v_not, v_cmp, v_cmp2, v_and, v_or, v_ite, v_tup, v_lst, v_ix, v_sl, v_call, v_callK, v_bi, v_divmod, v_mt, v_app, v_isi, v_itP, v_itE, v_rev, v_dnil, v_dkv, v_dun, v_dds, w_skip, w_seq, w_ex, w_asg, w_par, w_ite, w_ret, w_retN, Ev.R.c1, Ev.R.ca, Ev.R.cl, Ev.R.co, Ev.R.ci, Ev.R.cf, Ev.R.fl, slot, rd, Ev.Slot.d, tests, truD, tk, tkAll, rdAll, tkFr, tkS1, tkSl, parG, ofOpt, asgT, Ev.T.count, asgG, Ev.asgG.asgGs, putS, runCall, lendOk, mems, argsOf, argOf, outsTo, outsOf, finish, walkOf, itemsD, needLock, lock, Ev.F.unlock, unlock, hide, testOf, permD, binD, intD, addD, itemD, setD, biD, b_lenL, b_lenT, nats_length, bInt, bList, b_tupL, b_tupT, b_sortD, b_sortN, isiD, c_lt, c_le, c_gt, c_ge, c_eqI, c_neI, c_inL, c_inT, c_ninL, c_ninT, c_inD, len_dictN, List.map_cons, List.map_nil, List.length_cons, List.length_nil, List.replicate_succ, List.replicate_zero, List.cons_append, List.nil_append, List.append_nil, List.getElem?_cons_zero, List.getElem?_cons_succ, List.set_cons_zero, List.set_cons_succ, Option.map_some, Option.map_none, Option.bind_some, Option.any_some, ce]) (by simp [Is, v_nil, v_cons, v_star, v_bor, v_lend, v_var, v_give, v_int, v_bl, v_non, v_str, v_glob, v_bin, v_neg, v_not, v_cmp, v_cmp2, v_and, v_or, v_ite, v_tup, v_lst, v_ix, v_sl, v_call, v_callK, v_bi, v_divmod, v_mt, v_app, v_isi, v_itP, v_itE, v_rev, v_dnil, v_dkv, v_dun, v_dds, w_skip, w_seq, w_ex, w_asg, w_par, w_ite, w_ret, w_retN, Ev.R.c1, Ev.R.ca, Ev.R.cl, Ev.R.co, Ev.R.ci, Ev.R.cf, Ev.R.fl, slot, rd, Ev.Slot.d, tests, truD, tk, tkAll, rdAll, tkFr, tkS1, tkSl, parG, ofOpt, asgT, Ev.T.count, asgG, Ev.asgG.asgGs, putS, runCall, lendOk, mems, argsOf, argOf, outsTo, outsOf, finish, walkOf, itemsD, needLock, lock, Ev.F.unlock, unlock, hide, testOf, permD, binD, intD, addD, itemD, setD, biD, b_lenL, b_lenT, nats_length, bInt, bList, b_tupL, b_tupT, b_sortD, b_sortN, isiD, c_lt, c_le, c_gt, c_ge, c_eqI, c_neI, c_inL, c_inT, c_ninL, c_ninT, c_inD, len_dictN, List.map_cons, List.map_nil, List.length_cons, List.length_nil, List.replicate_succ, List.replicate_zero, List.cons_append, List.nil_append, List.append_nil, List.getElem?_cons_zero, List.getElem?_cons_succ, List.set_cons_zero, List.set_cons_succ, Option.map_some, Option.map_none, Option.bind_some, Option.any_some, ce]) (by simp [Is, v_nil, v_cons, v_star, v_bor, v_lend, v_var, v_give, v_int, v_bl, v_non, v_str, v_glob, v_bin, v_neg, v_not, v_cmp, v_cmp2, v_and, v_or, v_ite, v_tup, v_lst, v_ix, v_sl, v_call, v_callK, v_bi, v_divmod, v_mt, v_app, v_isi, v_itP, v_itE, v_rev, v_dnil, v_dkv, v_dun, v_dds, w_skip, w_seq, w_ex, w_asg, w_par, w_ite, w_ret, w_retN, Ev.R.c1, Ev.R.ca, Ev.R.cl, Ev.R.co, Ev.R.ci, Ev.R.cf, Ev.R.fl, slot, rd, Ev.Slot.d, tests, truD, tk, tkAll, rdAll, tkFr, tkS1, tkSl, parG, ofOpt, asgT, Ev.T.count, asgG, Ev.asgG.asgGs, putS, runCall, lendOk, mems, argsOf, argOf, outsTo, outsOf, finish, walkOf, itemsD, needLock, lock, Ev.F.unlock, unlock, hide, testOf, permD, binD, intD, addD, itemD, setD, biD, b_lenL, b_lenT, nats_length, bInt, bList, b_tupL, b_tupT, b_sortD, b_sortN, isiD, c_lt, c_le, c_gt, c_ge, c_eqI, c_neI, c_inL, c_inT, c_ninL, c_ninT, c_inD, len_dictN, List.map_cons, List.map_nil, List.length_cons, List.length_nil, List.replicate_succ, List.replicate_zero, List.cons_append, List.nil_append, List.append_nil, List.getElem?_cons_zero, List.getElem?_cons_succ, List.set_cons_zero, List.set_cons_succ, Option.map_some, Option.map_none, Option.bind_some, Option.any_some]) (by simp [Is, v_nil, v_cons, v_star, v_bor, v_lend, v_var, v_give, v_int, v_bl, v_non, v_str, v_glob, v_bin, v_neg, v_not, v_cmp, v_cmp2, v_and, v_or, v_ite, v_tup, v_lst, v_ix, v_sl, v_call, v_callK, v_bi, v_divmod, v_mt, v_app, v_isi, v_itP, v_itE, v_rev, v_dnil, v_dkv, v_dun, v_dds, w_skip, w_seq, w_ex, w_asg, w_par, w_ite, w_ret, w_retN, Ev.R.c1, Ev.R.ca, Ev.R.cl, Ev.R.co, Ev.R.ci, Ev.R.cf, Ev.R.fl, slot, rd, Ev.Slot.d, tests, truD, tk, tkAll, rdAll, tkFr, tkS1, tkSl, parG, ofOpt, asgT, Ev.T.count, asgG, Ev.asgG.asgGs, putS, runCall, lendOk, mems, argsOf, argOf, outsTo, outsOf, finish, walkOf, itemsD, needLock, lock, Ev.F.unlock, unlock, hide, testOf, permD, binD, intD, addD, itemD, setD, biD, b_lenL, b_lenT, nats_length, bInt, bList, b_tupL, b_tupT, b_sortD, b_sortN, isiD, c_lt, c_le, c_gt, c_ge, c_eqI, c_neI, c_inL, c_inT, c_ninL, c_ninT, c_inD, len_dictN, List.map_cons, List.map_nil, List.length_cons, List.length_nil, List.replicate_succ, List.replicate_zero, List.cons_append, List.nil_append, List.append_nil, List.getElem?_cons_zero, List.getElem?_cons_succ, List.set_cons_zero, List.set_cons_succ, Option.map_some, Option.map_none, Option.bind_some, Option.any_some]) (by show (P.rep _).isSome = true; rw [Has.rep]; exact rep_cells h1 h4)
  obtain ⟨o3', o5', f3', f5', q2⟩ := cells_turn (P := P) n s h1 h4 (pool a b c) o3 o4 o5 f3 f5
  obtain ⟨L, a1, b1, c1, hL, hb1, q3⟩ := lots_ok (P := P) n s h1 h4 a b c hb o3' o4 o5'
  obtain ⟨o4', o5'', f4', f5'', q4⟩ := lot_turn (P := P) n s h1 h4 (pool a1 b1 c1) L hL o3' o4 o5' f3' f4 f5'
  refine ⟨a1, b1, c1, some (.fz (.int ((plT s).length : Nat))), o3', o4', o5'', hb1, FzO.fz _, f3', f4', f5'', ?_⟩
  refine (seq_nx s1).trans ((seq_nx (ρ1 := [some (.ln (pool a b c)), some (.fz (.int (s : Int))), some (.fz (.int ((plT s).length : Nat))), o3, o4, o5, none]) ?_).trans ((seq_nx q2).trans (loop_nx q3 q4)))
  exact (ite_no (ρ1 := [some (.ln (pool a b c)), some (.fz (.int (s : Int))), some (.fz (.int ((plT s).length : Nat))), o3, o4, o5, none]) r1).trans w_skip
theorem fn_law_right : P.fns[32]? = some f__law_right := by rw [Has.fns]; rfl
theorem right_ok (n : Nat) (a b c : Int) (hb : 0 ≤ b) : ∃ a' b' c' : Int, callN P (n + 8) 32 [.ln (pool a b c)] = .ok false (.bl true) [pool a' b' c'] := by
  have lp := forGo_list (g := .nm 1 false) (body := fun ρ => evS ⟨callN P (n + 7), P.glob, P.rep⟩ P.fuel (.seq (.asg (.nm 2 false) (.bi .len (.cons (.call 26 (.cons (.var 1) .nil)) .nil))) (.seq (.ite (.cmp (.bi .repr (.cons (.lst (.cons (.call 20 (.cons (.var 1) .nil)) (.cons (.callK 20 (.cons (.var 1) .nil) [0]) .nil))) .nil)) (.link .ne (.bi .repr (.cons (.lst (.cons (.var 2) (.cons (.var 2) .nil))) .nil)) .nil)) (.ret (.bl false)) .skip) (.seq (.loop (.nm 3 false) (.itR (.cons (.var 2) .nil)) (.seq (.asg (.nm 5 false) (.call 27 (.cons (.var 1) (.cons (.var 3) .nil)))) (.ite (.or (.cmp (.bi .repr (.cons (.lst (.cons (.call 21 (.cons (.var 1) (.cons (.var 3) .nil))) (.cons (.callK 21 (.cons (.var 3) (.cons (.var 1) .nil)) [1, 0]) .nil))) .nil)) (.link .ne (.bi .repr (.cons (.lst (.cons (.var 5) (.cons (.var 5) .nil))) .nil)) .nil)) (.cmp (.lc (.nm 6 false) (.itP (.var 5)) (.cmp (.var 3) (.link .notin (.call 21 (.cons (.var 1) (.cons (.var 6) .nil))) .nil)) (.var 6) [6]) (.link .ne (.lst .nil) .nil))) (.ret (.bl false)) .skip))) (.loop (.nm 4 false) (.itP (.lst (.cons (.call 31 (.cons (.lend 0) (.cons (.var 1) (.cons (.var 2) .nil)))) (.cons (.call 31 (.cons (.lend 0) (.cons (.var 1) (.cons (.var 2) .nil)))) (.cons (.call 30 (.cons (.lend 0) (.cons (.var 2) .nil))) (.cons (.call 30 (.cons (.lend 0) (.cons (.var 2) .nil))) (.cons (.tup .nil) (.cons (.trng (.cons (.var 2) .nil)) (.cons (.tup (.cons (.int 0) .nil)) .nil))))))))) (.seq (.asg (.nm 5 false) (.and (.call 28 (.cons (.var 1) (.cons (.var 4) .nil))) (.call 29 (.cons (.var 1) (.cons (.var 4) .nil))))) (.ite (.cmp (.bi .repr (.cons (.lst (.cons (.call 22 (.cons (.var 1) (.cons (.var 4) .nil))) (.cons (.callK 22 (.cons (.var 4) (.cons (.var 1) .nil)) [1, 0]) .nil))) .nil)) (.link .ne (.bi .repr (.cons (.lst (.cons (.var 5) (.cons (.var 5) .nil))) .nil)) .nil)) (.ret (.bl false)) .skip)))))) ρ)
    (fun _ ρ => ∃ (a b c : Int) (o1 o2 o3 o4 o5 : Option Slot), 0 ≤ b ∧ FzO o1 ∧ FzO o2 ∧ FzO o3 ∧ FzO o4 ∧ FzO o5 ∧ ρ = [some (.ln (pool a b c)), o1, o2, o3, o4, o5, none])
    (nats [1, 2, 3, 4]) [some (.ln (pool a b c)), none, none, none, none, none, none] ⟨a, b, c, none, none, none, none, none, hb, FzO.no, FzO.no, FzO.no, FzO.no, FzO.no, rfl⟩ (fun i x ρ hx ⟨a, b, c, o1, o2, o3, o4, o5, hb, f1, f2, f3, f4, f5, e⟩ => ?_)
  · obtain ⟨ρ', q1, a1, b1, c1, o1, o2, o3, o4, o5, hb1, f1, f2, f3, f4, f5, rfl⟩ := lp
    refine ⟨a1, b1, c1, call_fz (ρ' := [some (.ln (pool a1 b1 c1)), o1, o2, o3, o4, o5, none]) fn_law_right rfl ((seq_nx (loop_nx (ρ1 := [some (.ln (pool a b c)), none, none, none, none, none, none]) (l := nats [1, 2, 3, 4]) ?_ q1)).trans ?_) (by simp [outsOf])⟩
    · show ev _ _ [some (.ln (pool a b c)), none, none, none, none, none, none] = _
      exact itP_lst (ds := nats [1, 2, 3, 4]) (by simp [v_nil, v_cons, v_star, v_bor, v_lend, v_var, v_give, v_int, v_bl, v_non, v_str, v_glob, v_bin, v_neg, v_not, v_cmp, v_cmp2, v_and, v_or, v_ite, v_tup, v_lst, v_ix, v_sl, v_call, v_callK, v_bi, v_divmod, v_mt, v_app, v_isi, v_itP, v_itE, v_rev, v_dnil, v_dkv, v_dun, v_dds, w_skip, w_seq, w_ex, w_asg, w_par, w_ite, w_ret, w_retN, Ev.R.c1, Ev.R.ca, Ev.R.cl, Ev.R.co, Ev.R.ci, Ev.R.cf, Ev.R.fl, slot, rd, Ev.Slot.d, tests, truD, tk, tkAll, rdAll, tkFr, tkS1, tkSl, parG, ofOpt, asgT, Ev.T.count, asgG, Ev.asgG.asgGs, putS, runCall, lendOk, mems, argsOf, argOf, outsTo, outsOf, finish, walkOf, itemsD, needLock, lock, Ev.F.unlock, unlock, hide, testOf, permD, binD, intD, addD, itemD, setD, biD, b_lenL, b_lenT, nats_length, bInt, bList, b_tupL, b_tupT, b_sortD, b_sortN, isiD, c_lt, c_le, c_gt, c_ge, c_eqI, c_neI, c_inL, c_inT, c_ninL, c_ninT, c_inD, len_dictN, List.map_cons, List.map_nil, List.length_cons, List.length_nil, List.replicate_succ, List.replicate_zero, List.cons_append, List.nil_append, List.append_nil, List.getElem?_cons_zero, List.getElem?_cons_succ, List.set_cons_zero, List.set_cons_succ, Option.map_some, Option.map_none, Option.bind_some, Option.any_some, nats]) (by show _ ≤ LIM; unfold LIM nats; simp)
    · have m1 := meetsAll_ok (P := P) (n + 1) 2 (by decide) (by decide) [0, 1] (by simp [Up]) (by decide)
      have m2 := beside_ok (P := P) (n + 2) 2 0 (by decide) (by decide) (by decide)
      have m3 := cellsOf_ok (P := P) (n + 2) 3 (by decide) (by decide)
      have m4 := meetsAll_ok (P := P) (n + 1) 1 (by decide) (by decide) [0] (by simp [Up]) (by decide)
      have m5 := meetsAll_ok (P := P) (n + 1) 3 (by decide) (by decide) [0, 5] (by simp [Up]) (by decide)
      rw [show meetsB 2 [0, 1] = true by decide] at m1
      rw [show nbOf (nbT 2) 0 = [1, 2] by decide] at m2
      rw [show (plT 3).length = 6 by decide] at m3
      rw [show meetsB 1 [0] = true by decide] at m4
      rw [show meetsB 3 [0, 5] = false by decide] at m5
      simp [tup, nats] at m1 m2 m3 m4 m5
      have t1 : cmpD .eq (.tup [.int 1, .int 2]) (.tup [.int 1, .int 2]) = some true := by rfl
      simp [v_nil, v_cons, v_star, v_bor, v_lend, v_var, v_give, v_int, v_bl, v_non, v_str, v_glob, v_bin, v_neg, v_not, v_cmp, v_cmp2, v_and, v_or, v_ite, v_tup, v_lst, v_ix, v_sl, v_call, v_callK, v_bi, v_divmod, v_mt, v_app, v_isi, v_itP, v_itE, v_rev, v_dnil, v_dkv, v_dun, v_dds, w_skip, w_seq, w_ex, w_asg, w_par, w_ite, w_ret, w_retN, Ev.R.c1, Ev.R.ca, Ev.R.cl, Ev.R.co, Ev.R.ci, Ev.R.cf, Ev.R.fl, slot, rd, Ev.Slot.d, tests, truD, tk, tkAll, rdAll, tkFr, tkS1, tkSl, parG, ofOpt, asgT, Ev.T.count, asgG, Ev.asgG.asgGs, putS, runCall, lendOk, mems, argsOf, argOf, outsTo, outsOf, finish, walkOf, itemsD, needLock, lock, Ev.F.unlock, unlock, hide, testOf, permD, binD, intD, addD, itemD, setD, biD, b_lenL, b_lenT, nats_length, bInt, bList, b_tupL, b_tupT, b_sortD, b_sortN, isiD, c_lt, c_le, c_gt, c_ge, c_eqI, c_neI, c_inL, c_inT, c_ninL, c_ninT, c_inD, len_dictN, List.map_cons, List.map_nil, List.length_cons, List.length_nil, List.replicate_succ, List.replicate_zero, List.cons_append, List.nil_append, List.append_nil, List.getElem?_cons_zero, List.getElem?_cons_succ, List.set_cons_zero, List.set_cons_succ, Option.map_some, Option.map_none, Option.bind_some, Option.any_some, m1, m2, m3, m4, m5, c_isB, t1, LIM]
  · subst e
    rw [nats_get] at hx
    obtain ⟨s, hs, rfl⟩ := Option.map_eq_some_iff.mp hx
    have hs2 : s ∈ [1, 2, 3, 4] := List.mem_of_getElem? hs
    have h1 : 1 ≤ s ∧ s ≤ 4 := by
      simp at hs2
      omega
    obtain ⟨a', b', c', o2', o3', o4', o5', hb', g2, g3, g4, g5, q⟩ := side_turn (P := P) n s h1.1 h1.2 a b c hb o2 o3 o4 o5 f2 f3 f4 f5
    refine ⟨[some (.ln (pool a b c)), some (.fz (.int (s : Int))), o2, o3, o4, o5, none], ?_, _, .inl q, a', b', c', some (.fz (.int (s : Int))), o2', o3', o4', o5', hb', FzO.fz _, g2, g3, g4, g5, rfl⟩
    rcases f1 with rfl | ⟨d, rfl⟩ <;> simp [v_nil, v_cons, v_star, v_bor, v_lend, v_var, v_give, v_int, v_bl, v_non, v_str, v_glob, v_bin, v_neg, v_not, v_cmp, v_cmp2, v_and, v_or, v_ite, v_tup, v_lst, v_ix, v_sl, v_call, v_callK, v_bi, v_divmod, v_mt, v_app, v_isi, v_itP, v_itE, v_rev, v_dnil, v_dkv, v_dun, v_dds, w_skip, w_seq, w_ex, w_asg, w_par, w_ite, w_ret, w_retN, Ev.R.c1, Ev.R.ca, Ev.R.cl, Ev.R.co, Ev.R.ci, Ev.R.cf, Ev.R.fl, slot, rd, Ev.Slot.d, tests, truD, tk, tkAll, rdAll, tkFr, tkS1, tkSl, parG, ofOpt, asgT, Ev.T.count, asgG, Ev.asgG.asgGs, putS, runCall, lendOk, mems, argsOf, argOf, outsTo, outsOf, finish, walkOf, itemsD, needLock, lock, Ev.F.unlock, unlock, hide, testOf, permD, binD, intD, addD, itemD, setD, biD, b_lenL, b_lenT, nats_length, bInt, bList, b_tupL, b_tupT, b_sortD, b_sortN, isiD, c_lt, c_le, c_gt, c_ge, c_eqI, c_neI, c_inL, c_inT, c_ninL, c_ninT, c_inD, len_dictN, List.map_cons, List.map_nil, List.length_cons, List.length_nil, List.replicate_succ, List.replicate_zero, List.cons_append, List.nil_append, List.append_nil, List.getElem?_cons_zero, List.getElem?_cons_succ, List.set_cons_zero, List.set_cons_succ, Option.map_some, Option.map_none, Option.bind_some, Option.any_some]
theorem maxmin (m : Nat) : (if (if (3 : Int) < (m : Int) then (3 : Int) else (m : Int)) > 2 then (if (3 : Int) < (m : Int) then (3 : Int) else (m : Int)) else 2) = ((max 2 (min m 3) : Nat) : Int) := by
  split <;> split <;> omega
theorem fn_law : P.fns[33]? = some f_law := by rw [Has.fns]; rfl
theorem law_true (n : Nat) (ns : List Int) (hl : ns.length < 1000000) : ∃ outs, callN P (n + 9) 33 [.fz (.lst (ns.map D.int))] = .ok false (.bl true) outs := by
  let k : Nat := max 2 (min ns.length 3)
  have lp := forGo_list (g := .nm 1 false) (body := fun ρ => evS ⟨callN P (n + 8), P.glob, P.rep⟩ P.fuel (.ite (.not (.call 32 (.cons (.give (.call 23 (.cons (.var 0) (.cons (.var 1) .nil)))) .nil))) (.ret (.bl false)) .skip) ρ)
    (fun _ ρ => ∃ o1 : Option Slot, FzO o1 ∧ ρ = [some (.fz (.lst (ns.map D.int))), o1])
    (nats (List.range k)) [some (.fz (.lst (ns.map D.int))), none] ⟨none, FzO.no, rfl⟩ (fun i x ρ hx ⟨o1, f1, e⟩ => ?_)
  · obtain ⟨ρ', q1, o1, f1, rfl⟩ := lp
    refine ⟨_, call_fz (ρ' := [some (.fz (.lst (ns.map D.int))), o1]) fn_law rfl ((seq_nx (loop_nx (ρ1 := [some (.fz (.lst (ns.map D.int))), none]) (itR1 (r := .fz (.int (k : Nat))) ?_ rfl (by omega)) q1)).trans (by simp [v_nil, v_cons, v_star, v_bor, v_lend, v_var, v_give, v_int, v_bl, v_non, v_str, v_glob, v_bin, v_neg, v_not, v_cmp, v_cmp2, v_and, v_or, v_ite, v_tup, v_lst, v_ix, v_sl, v_call, v_callK, v_bi, v_divmod, v_mt, v_app, v_isi, v_itP, v_itE, v_rev, v_dnil, v_dkv, v_dun, v_dds, w_skip, w_seq, w_ex, w_asg, w_par, w_ite, w_ret, w_retN, Ev.R.c1, Ev.R.ca, Ev.R.cl, Ev.R.co, Ev.R.ci, Ev.R.cf, Ev.R.fl, slot, rd, Ev.Slot.d, tests, truD, tk, tkAll, rdAll, tkFr, tkS1, tkSl, parG, ofOpt, asgT, Ev.T.count, asgG, Ev.asgG.asgGs, putS, runCall, lendOk, mems, argsOf, argOf, outsTo, outsOf, finish, walkOf, itemsD, needLock, lock, Ev.F.unlock, unlock, hide, testOf, permD, binD, intD, addD, itemD, setD, biD, b_lenL, b_lenT, nats_length, bInt, bList, b_tupL, b_tupT, b_sortD, b_sortN, isiD, c_lt, c_le, c_gt, c_ge, c_eqI, c_neI, c_inL, c_inT, c_ninL, c_ninT, c_inD, len_dictN, List.map_cons, List.map_nil, List.length_cons, List.length_nil, List.replicate_succ, List.replicate_zero, List.cons_append, List.nil_append, List.append_nil, List.getElem?_cons_zero, List.getElem?_cons_succ, List.set_cons_zero, List.set_cons_succ, Option.map_some, Option.map_none, Option.bind_some, Option.any_some])) rfl⟩
    have mm := maxmin ns.length
    show ev _ _ [some (.fz (.lst (ns.map D.int))), none] = _
    simp [v_nil, v_cons, v_star, v_bor, v_lend, v_var, v_give, v_int, v_bl, v_non, v_str, v_glob, v_bin, v_neg, v_not, v_cmp, v_cmp2, v_and, v_or, v_ite, v_tup, v_lst, v_ix, v_sl, v_call, v_callK, v_bi, v_divmod, v_mt, v_app, v_isi, v_itP, v_itE, v_rev, v_dnil, v_dkv, v_dun, v_dds, w_skip, w_seq, w_ex, w_asg, w_par, w_ite, w_ret, w_retN, Ev.R.c1, Ev.R.ca, Ev.R.cl, Ev.R.co, Ev.R.ci, Ev.R.cf, Ev.R.fl, slot, rd, Ev.Slot.d, tests, truD, tk, tkAll, rdAll, tkFr, tkS1, tkSl, parG, ofOpt, asgT, Ev.T.count, asgG, Ev.asgG.asgGs, putS, runCall, lendOk, mems, argsOf, argOf, outsTo, outsOf, finish, walkOf, itemsD, needLock, lock, Ev.F.unlock, unlock, hide, testOf, permD, binD, intD, addD, itemD, setD, biD, b_lenL, b_lenT, nats_length, bInt, bList, b_tupL, b_tupT, b_sortD, b_sortN, isiD, c_lt, c_le, c_gt, c_ge, c_eqI, c_neI, c_inL, c_inT, c_ninL, c_ninT, c_inD, len_dictN, List.map_cons, List.map_nil, List.length_cons, List.length_nil, List.replicate_succ, List.replicate_zero, List.cons_append, List.nil_append, List.append_nil, List.getElem?_cons_zero, List.getElem?_cons_succ, List.set_cons_zero, List.set_cons_succ, Option.map_some, Option.map_none, Option.bind_some, Option.any_some, bMin, bMax, mm, k]
  · subst e
    rw [nats_get] at hx
    obtain ⟨t, ht, rfl⟩ := Option.map_eq_some_iff.mp hx
    obtain ⟨a, b, hb, q1⟩ := pool_ok (P := P) (n + 7) ns t
    obtain ⟨a', b', c', q2⟩ := right_ok (P := P) n a b 0 hb
    refine ⟨[some (.fz (.lst (ns.map D.int))), some (.fz (.int (t : Int)))], ?_, [some (.fz (.lst (ns.map D.int))), some (.fz (.int (t : Int)))], .inl ?_, _, FzO.fz _, rfl⟩
    · rcases f1 with rfl | ⟨d, rfl⟩ <;> simp [v_nil, v_cons, v_star, v_bor, v_lend, v_var, v_give, v_int, v_bl, v_non, v_str, v_glob, v_bin, v_neg, v_not, v_cmp, v_cmp2, v_and, v_or, v_ite, v_tup, v_lst, v_ix, v_sl, v_call, v_callK, v_bi, v_divmod, v_mt, v_app, v_isi, v_itP, v_itE, v_rev, v_dnil, v_dkv, v_dun, v_dds, w_skip, w_seq, w_ex, w_asg, w_par, w_ite, w_ret, w_retN, Ev.R.c1, Ev.R.ca, Ev.R.cl, Ev.R.co, Ev.R.ci, Ev.R.cf, Ev.R.fl, slot, rd, Ev.Slot.d, tests, truD, tk, tkAll, rdAll, tkFr, tkS1, tkSl, parG, ofOpt, asgT, Ev.T.count, asgG, Ev.asgG.asgGs, putS, runCall, lendOk, mems, argsOf, argOf, outsTo, outsOf, finish, walkOf, itemsD, needLock, lock, Ev.F.unlock, unlock, hide, testOf, permD, binD, intD, addD, itemD, setD, biD, b_lenL, b_lenT, nats_length, bInt, bList, b_tupL, b_tupT, b_sortD, b_sortN, isiD, c_lt, c_le, c_gt, c_ge, c_eqI, c_neI, c_inL, c_inT, c_ninL, c_ninT, c_inD, len_dictN, List.map_cons, List.map_nil, List.length_cons, List.length_nil, List.replicate_succ, List.replicate_zero, List.cons_append, List.nil_append, List.append_nil, List.getElem?_cons_zero, List.getElem?_cons_succ, List.set_cons_zero, List.set_cons_succ, Option.map_some, Option.map_none, Option.bind_some, Option.any_some]
    · simp [v_nil, v_cons, v_star, v_bor, v_lend, v_var, v_give, v_int, v_bl, v_non, v_str, v_glob, v_bin, v_neg, v_not, v_cmp, v_cmp2, v_and, v_or, v_ite, v_tup, v_lst, v_ix, v_sl, v_call, v_callK, v_bi, v_divmod, v_mt, v_app, v_isi, v_itP, v_itE, v_rev, v_dnil, v_dkv, v_dun, v_dds, w_skip, w_seq, w_ex, w_asg, w_par, w_ite, w_ret, w_retN, Ev.R.c1, Ev.R.ca, Ev.R.cl, Ev.R.co, Ev.R.ci, Ev.R.cf, Ev.R.fl, slot, rd, Ev.Slot.d, tests, truD, tk, tkAll, rdAll, tkFr, tkS1, tkSl, parG, ofOpt, asgT, Ev.T.count, asgG, Ev.asgG.asgGs, putS, runCall, lendOk, mems, argsOf, argOf, outsTo, outsOf, finish, walkOf, itemsD, needLock, lock, Ev.F.unlock, unlock, hide, testOf, permD, binD, intD, addD, itemD, setD, biD, b_lenL, b_lenT, nats_length, bInt, bList, b_tupL, b_tupT, b_sortD, b_sortN, isiD, c_lt, c_le, c_gt, c_ge, c_eqI, c_neI, c_inL, c_inT, c_ninL, c_ninT, c_inD, len_dictN, List.map_cons, List.map_nil, List.length_cons, List.length_nil, List.replicate_succ, List.replicate_zero, List.cons_append, List.nil_append, List.append_nil, List.getElem?_cons_zero, List.getElem?_cons_succ, List.set_cons_zero, List.set_cons_succ, Option.map_some, Option.map_none, Option.bind_some, Option.any_some, q1, q2]
end K75
end

section
set_option Elab.async false
set_option linter.all false
set_option maxRecDepth 1000000
set_option maxHeartbeats 0
/-! ### the law, of the text -/
namespace K75
open Ev
theorem lawOk : LawOk prog 41 33 63 := fun ns hl => by
  obtain ⟨outs, h⟩ := law_true (P := prog) 32 ns (by omega)
  exact ⟨false, outs, h⟩
end K75
end

section
set_option Elab.async false
set_option linter.all false
set_option maxRecDepth 1000000
set_option maxHeartbeats 0
open PySem PySem.W PySem.Calls PyProof.Rows
theorem PySem.Challenge.cw_joinorbar_k75_whole_neighbours_and_sides_holds : PySem.Challenge.rw_joinorbar_k75_whole_neighbours_and_sides.Holds := by
  w_on; o_law
  refine HandSHeadRun.head_any (r := K75.R) (q := PySem.W.view K75.R.prog [47]) (H := K75.hk) (ob := K75.ob) (M := 3280) (loose := K75.loose) (d := HandSHeadRun.topDef K75.R.prog 47) (kwd := []) K75.ob_eq
    (by kernel_rfl) (fun s => by kernel_rfl) K75.run (by kernel_rfl) (by kernel_rfl) (by kernel_rfl) (by rfl) (by first | assumption | decide +kernel) (by decide +kernel) ⟨rfl, rfl, rfl, rfl, rfl, by decide +kernel⟩ ?hw ?hc
  case hw => w_witness2
  case hc =>
    refine Ev.walk_g (l := PySem.Challenge.rw_joinorbar_k75_whole_neighbours_and_sides) (n := 63) (k := K75.deep + 1) (x := "script") rfl (by decide) (by kernel_rfl) ⟨rfl, by decide, by decide⟩ ?F
    intro w mg fa h Y G hmg0
    obtain ⟨K, KX, nl, c⟩ := Y
    have hmg : mg ("law" : PySem.Str) = some (.ref fa) := by
      have e : (HandSHeadRun.topDef K75.R.prog 47).name = ("law" : PySem.Str) := by kernel_rfl
      rw [← e]
      exact hmg0
    obtain ⟨fd, sp, b, s, F⟩ := Ev.lw_law K75.lwOk KX nl G c (i := 33) (m := K75.deep) (n := 63) (x := "law") (y := "script") K75.law_in K75.law_ps hmg K75.lawOk
    exact ⟨K, fd, sp, KX, b, fun H a ns hl sq _ => s H a ns hl sq, F⟩
end
