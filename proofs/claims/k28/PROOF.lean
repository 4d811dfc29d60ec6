import PyProof.Rows.All
import HandS.ForMost
import HandS.Style
import HandS.Flow
import HandS.Conv
import HandS.Codes
import HandS.TupAny
import HandS.TupMul
import HandS.Deep
import HandS.DictComp
import HandS.Dict
import HandS.SetKeys
import HandS.TupLe
import HandS.SortInts
import HandS.More
import PyProof.Rows.SortShellAny
import PyProof.ReprLen
import PyProof.ReprRoads
import HandS.TryOnly
import HandS.Iter
import HandS.HeadEnd
import HandS.HeadHook2
import HandS.HeadHook4
import HandS.Head2
import PyProof.LongRange
import PyProof.ListRange
import HandS.SetFor
import HandS.TupSets
import HandS.Star
import HandS.Zip
import HandS.IsInst
import KE.KDictList
import Wide.Once
import HandS.Gcd
import HandS.HeadHook3
import PyProof.Draws
import KE.KDictZip
import HandS.SetTxt0
import KE.DataMinMax
import KE.SortData
import KE.DataEq
import PyProof.P3Eq
import HandS.Head3
import PySem.Challenge.RW_splitsays_k28_turns
/-! Pv: a small language of data and of expressions, and what must hold so that running it ends well (a weakest precondition, reckoned by recursion over the syntax). No Python model in sight. -/
set_option autoImplicit false
set_option linter.all false
namespace Pv

/-- data -/
inductive D where
  | non
  | bl (b : Bool)
  | int (i : Int)
  | str (s : List Nat)
  | tup (l : List D)
  | lst (l : List D)
  | dic (l : List (D × D))
  | ref (n : Nat)
  | fn (x : String)
  | rep (d : D)
deriving Inhabited

/-- how a value is held: by no one that may change it, by no one else at all, by a name, by a member of an object -/
inductive Kd where
  | fz | fresh | bor (i : Nat) | borF (n : Nat) (f : List Nat)

/-- an object: its class, its members by name, with their level (0: never changed, 1: its own) -/
structure Obj where
  cls : String
  fs : List (List Nat × Nat × D)

abbrev Env := List (Option (Nat × D))
abbrev Store := List Obj

def big : Nat := 16777216

mutual
def pyEq : D → D → Bool
  | .non, .non => true
  | .bl a, .bl b => a == b
  | .int a, .int b => a == b
  | .bl a, .int b => (if a then (1 : Int) else 0) == b
  | .int a, .bl b => a == (if b then (1 : Int) else 0)
  | .str a, .str b => a == b
  | .tup a, .tup b => pyEqL a b
  | .lst a, .lst b => pyEqL a b
  | _, _ => false
def pyEqL : List D → List D → Bool
  | [], [] => true
  | a :: r, b :: s => pyEq a b && pyEqL r s
  | _, _ => false
end

/-- signs of texts that == takes -/
def okS (s : List Nat) : Bool := s.all (· < 1114112)
mutual
/-- data that == takes, nested at most n deep -/
def plain : D → Nat → Bool
  | .non, _ => true
  | .bl _, _ => true
  | .int _, _ => true
  | .str s, _ => okS s
  | .tup l, n => match n with | 0 => false | n + 1 => plainL l n
  | .lst l, n => match n with | 0 => false | n + 1 => plainL l n
  | _, _ => false
def plainL : List D → Nat → Bool
  | [], _ => true
  | a :: r, n => plain a n && plainL r n
end

/-- a key of a dict: an int or a text -/
def isKey : D → Bool
  | .int _ => true
  | .str _ => true
  | _ => false

def dget (kvs : List (D × D)) (k : D) : Option D :=
  match kvs with
  | [] => none
  | (a, v) :: r => if pyEq a k then some v else dget r k
def dput (kvs : List (D × D)) (k v : D) : List (D × D) :=
  if kvs.any (fun q => pyEq q.1 k) = true then kvs.map (fun q => if pyEq q.1 k = true then (q.1, v) else q) else kvs ++ [(k, v)]
def ddrop (kvs : List (D × D)) (k : D) : List (D × D) := kvs.filter fun q => !pyEq q.1 k

/-- the member at an index, which may count from the end -/
def ixN (n : Nat) (i : Int) : Option Nat := if 0 ≤ i then (if i < n then some i.toNat else none) else if -(n : Int) ≤ i then some (i + n).toNat else none
def atI {α : Type} (xs : List α) (i : Int) : Option α := (ixN xs.length i).bind fun j => xs[j]?
/-- a bound of a slice as a place -/
def sIx (n d : Nat) : Option Int → Nat
  | none => d
  | some v => if v < 0 then (v + (n : Int)).toNat else min v.toNat n
def cut {α : Type} (l : List α) (lo hi : Option Int) : List α :=
  (l.drop (sIx l.length 0 lo)).take (sIx l.length l.length hi - sIx l.length 0 lo)

/-- rising order of intsOf, of texts -/
def insI (x : Int) : List Int → List Int
  | [] => [x]
  | y :: r => if x ≤ y then x :: y :: r else y :: insI x r
def sortI : List Int → List Int
  | [] => []
  | x :: r => insI x (sortI r)
/-- the order of texts, sign by sign -/
def leS : List Nat → List Nat → Bool
  | [], _ => true
  | _ :: _, [] => false
  | a :: r, b :: s => if a < b then true else if b < a then false else leS r s
def insS (x : List Nat) : List (List Nat) → List (List Nat)
  | [] => [x]
  | y :: r => if leS x y then x :: y :: r else y :: insS x r
def sortS : List (List Nat) → List (List Nat)
  | [] => []
  | x :: r => insS x (sortS r)

def intsOf : List D → Option (List Int)
  | [] => some []
  | .int i :: r => (intsOf r).map (i :: ·)
  | _ :: _ => none
def strsOf : List D → Option (List (List Nat))
  | [] => some []
  | .str s :: r => (strsOf r).map (s :: ·)
  | _ :: _ => none
def boolsOf : List D → Option (List Bool)
  | [] => some []
  | .bl b :: r => (boolsOf r).map (b :: ·)
  | _ :: _ => none

inductive BOp where
  | add | sub | mul | fdiv | mod | pow | bor | band | shl | shr
inductive COp where
  | lt | le | gt | ge | eq | ne | mem | notMem | isN | notN

/-- truth -/
def tru : D → (Bool → Prop) → Prop
  | .non, K => K false
  | .bl b, K => K b
  | .int i, K => K (i != 0)
  | .str s, K => s.length ≤ big ∧ K (!s.isEmpty)
  | .tup l, K => K (!l.isEmpty)
  | .lst l, K => K (!l.isEmpty)
  | _, _ => False

def kindOf : D → Kd
  | .lst _ => .fresh
  | .dic _ => .fresh
  | _ => .fz

/-- a factor below 2 ^ 64 in size -/
def small (i : Int) : Prop := -18446744073709551616 < i ∧ i < 18446744073709551616

def bin : BOp → D → D → (D → Prop) → Prop
  | .add, .int i, .int j, K => K (.int (i + j))
  | .add, .str s, .str t, K => s.length + t.length ≤ big ∧ K (.str (s ++ t))
  | .add, .lst a, .lst b, K => a.length + b.length ≤ big ∧ K (.lst (a ++ b))
  | .add, .tup a, .tup b, K => a.length + b.length ≤ big ∧ K (.tup (a ++ b))
  | .sub, .int i, .int j, K => K (.int (i - j))
  | .mul, .int i, .int j, K => (small i ∨ small j) ∧ K (.int (i * j))
  | .mul, .lst a, .int j, K => (-16777216 < j ∧ j < 16777216) ∧ a.length * j.toNat ≤ big ∧ K (.lst (List.replicate j.toNat a).flatten)
  | .mul, .tup a, .int j, K => (-1000 ≤ j ∧ j ≤ 1000 ∧ a.length ≤ 1000) ∧ K (.tup (List.replicate j.toNat a).flatten)
  | .fdiv, .int i, .int j, K => (j ≠ 0 ∧ j.natAbs < 1073741824) ∧ K (.int (i.fdiv j))
  | .mod, .int i, .int j, K => j ≠ 0 ∧ K (.int (i.fmod j))
  | .pow, .int i, .int j, K => (0 ≤ j ∧ j ≤ 1000000 ∧ i.natAbs < 18446744073709551616) ∧ K (.int (i ^ j.toNat))
  | .bor, .int i, .int j, K => (0 ≤ i ∧ 0 ≤ j) ∧ K (.int ((i.toNat ||| j.toNat : Nat) : Int))
  | .band, .int i, .int j, K => (0 ≤ i ∧ 0 ≤ j) ∧ K (.int ((i.toNat &&& j.toNat : Nat) : Int))
  | .shl, .int i, .int j, K => (0 ≤ j ∧ j ≤ 1000000 ∧ i.natAbs < 18446744073709551616) ∧ K (.int (i * 2 ^ j.toNat))
  | .shr, .int i, .int j, K => 0 ≤ j ∧ K (.int (i / 2 ^ j.toNat))
  | _, _, _, _ => False

/-- whether a text stands in another one; of one sign alone -/
def memP (x : D) (y : D) (K : Bool → Prop) : Prop :=
  match y with
  | .lst l => plain x 60 = true ∧ plainL l 60 = true ∧ K (l.any (pyEq · x))
  | .tup l => plain x 60 = true ∧ plainL l 60 = true ∧ K (l.any (pyEq · x))
  | .dic kvs => isKey x = true ∧ K (dget kvs x).isSome
  | .str t => ∃ c, x = .str [c] ∧ K (t.contains c)
  | _ => False

def isNon : D → Bool
  | .non => true
  | _ => false
def cmpP : COp → D → D → (Bool → Prop) → Prop
  | .lt, .int i, .int j, K => K (decide (i < j))
  | .le, .int i, .int j, K => K (decide (i ≤ j))
  | .gt, .int i, .int j, K => K (decide (j < i))
  | .ge, .int i, .int j, K => K (decide (j ≤ i))
  | .lt, .str i, .str j, K => K (!leS j i)
  | .le, .str i, .str j, K => K (leS i j)
  | .gt, .str i, .str j, K => K (!leS i j)
  | .ge, .str i, .str j, K => K (leS j i)
  | .eq, .rep a, .rep b, K => a = b ∧ K true
  | .ne, .rep a, .rep b, K => a = b ∧ K false
  | .eq, x, y, K => plain x 60 = true ∧ plain y 60 = true ∧ K (pyEq x y)
  | .ne, x, y, K => plain x 60 = true ∧ plain y 60 = true ∧ K (!pyEq x y)
  | .mem, x, y, K => memP x y K
  | .notMem, x, y, K => memP x y fun b => K (!b)
  | .isN, x, .non, K => K (isNon x)
  | .notN, x, .non, K => K (!isNon x)
  | .isN, .bl a, .bl b, K => K (decide (a = b))
  | _, _, _, _ => False

def getF (o : Obj) (f : List Nat) : Option (Nat × D) := (o.fs.find? fun p => p.1 == f).map (·.2)
def setF (o : Obj) (f : List Nat) (v : Nat × D) : Obj := { o with fs := o.fs.map fun p => if p.1 == f then (f, v) else p }

/-- the member of something at an index or key -/
def idxP (x k : D) (μ : Store) (Q : Kd → D → Prop) : Prop :=
  match x, k with
  | .tup l, .int i => ∃ d, atI l i = some d ∧ Q .fz d
  | .lst l, .int i => ∃ d, atI l i = some d ∧ Q .fz d
  | .str s, .int i => s.length ≤ big ∧ ∃ c, atI s i = some c ∧ Q .fz (.str [c])
  | .dic kvs, k => isKey k = true ∧ ∃ d, dget kvs k = some d ∧ Q .fz d
  | .ref n, .str f => ∃ o l d, μ[n]? = some o ∧ o.cls = "dict" ∧ getF o f = some (l, d) ∧ Q (if l = 0 then .fz else .borF n f) d
  | _, _ => False

def optI : Option D → Option (Option Int)
  | none => some none
  | some (.int i) => some (some i)
  | _ => none
def sliceP (x : D) (a b : Option Int) (Q : D → Prop) : Prop :=
  match x with
  | .tup l => Q (.tup (cut l a b))
  | .lst l => Q (.lst (cut l a b))
  | .str s => s.length ≤ big ∧ Q (.str (cut s a b))
  | _ => False
def revP (x : D) (Q : D → Prop) : Prop :=
  match x with
  | .lst l => Q (.lst l.reverse)
  | .tup l => Q (.tup l.reverse)
  | _ => False

/-- the members of what is walked -/
def itemsOf : D → Option (List D)
  | .tup l => some l
  | .lst l => some l
  | _ => none

mutual
/-- no less than the length of the text that tells data that is nested at most n deep -/
def rsz : D → Nat → Nat
  | .non, _ => 4
  | .bl _, _ => 5
  | .int i, _ => if i.natAbs < 10 ^ 50 then 52 else 100000000
  | .str s, _ => if s.all (· < 1114112) then 10 * s.length + 2 else 100000000
  | .tup l, n => match n with | 0 => 100000000 | n + 1 => rszL l n + 3
  | .lst l, n => match n with | 0 => 100000000 | n + 1 => rszL l n + 3
  | _, _ => 100000000
def rszL : List D → Nat → Nat
  | [], _ => 0
  | a :: r, n => rsz a n + 2 + rszL r n
end

/-- built-in functions -/
inductive Bl where
  | len | abs | int | max | min | list | tuple | repr | sorted | sum | all | any | maxL | minL | minP | sortP | listD | dpairs | strI
def lenP (as : List D) (Q : D → Prop) : Prop :=
  match as with
  | [.tup l] => Q (.int l.length)
  | [.lst l] => Q (.int l.length)
  | [.dic l] => Q (.int l.length)
  | [.str s] => s.length ≤ big ∧ Q (.int s.length)
  | _ => False
def absP (as : List D) (Q : D → Prop) : Prop :=
  match as with
  | [.int i] => Q (.int (if i < 0 then -i else i))
  | _ => False
def intP (as : List D) (Q : D → Prop) : Prop :=
  match as with
  | [.int i] => Q (.int i)
  | [.bl b] => Q (.int (if b then 1 else 0))
  | _ => False
def maxP (as : List D) (Q : D → Prop) : Prop :=
  match as with
  | [.int i, .int j] => Q (.int (if j > i then j else i))
  | _ => False
def minP (as : List D) (Q : D → Prop) : Prop :=
  match as with
  | [.int i, .int j] => Q (.int (if j < i then j else i))
  | _ => False
def listP (as : List D) (Q : D → Prop) : Prop :=
  match as with
  | [.lst l] => Q (.lst l)
  | [.tup l] => Q (.lst l)
  | _ => False
def tupleP (as : List D) (Q : D → Prop) : Prop :=
  match as with
  | [.lst l] => Q (.tup l)
  | [.tup l] => Q (.tup l)
  | _ => False
def reprP (as : List D) (Q : D → Prop) : Prop :=
  match as with
  | [d] => rsz d 60 ≤ 16777216 ∧ Q (.rep d)
  | _ => False
def sortedP (as : List D) (Q : D → Prop) : Prop :=
  match as with
  | [.lst l] => (∃ ns, intsOf l = some ns ∧ Q (.lst ((sortI ns).map .int))) ∨ ∃ ss, strsOf l = some ss ∧ Q (.lst ((sortS ss).map .str))
  | [.dic l] => (∃ ns, intsOf (l.map (·.1)) = some ns ∧ Q (.lst ((sortI ns).map .int))) ∨ ∃ ss, strsOf (l.map (·.1)) = some ss ∧ Q (.lst ((sortS ss).map .str))
  | _ => False
def dedupI : List Int → List Int
  | [] => []
  | x :: r => if x ∈ dedupI r then dedupI r else x :: dedupI r
/-- sorted(set(list of ints)) -/
def ssetP (x : D) (Q : D → Prop) : Prop :=
  ∃ l ns, x = .lst l ∧ intsOf l = some ns ∧ ns.length ≤ 1000 ∧ (dedupI ns).length < 64 ∧ Q (.lst ((sortI (dedupI ns)).map .int))
def dedupS : List (List Nat) → List (List Nat)
  | [] => []
  | x :: r => if x ∈ dedupS r then dedupS r else x :: dedupS r
/-- sorted(set(list of texts)) -/
def ssetSP (x : D) (Q : D → Prop) : Prop :=
  ∃ l ss, x = .lst l ∧ strsOf l = some ss ∧ ss.length ≤ 1000 ∧ (dedupS ss).length < 64 ∧ Q (.lst ((sortS (dedupS ss)).map .str))
def sumP (as : List D) (Q : D → Prop) : Prop :=
  match as with
  | [.lst l] => ∃ ns, intsOf l = some ns ∧ Q (.int ns.sum)
  | _ => False
def allP (as : List D) (Q : D → Prop) : Prop :=
  match as with
  | [.lst l] => ∃ bs, boolsOf l = some bs ∧ Q (.bl (bs.all id))
  | _ => False
def anyP (as : List D) (Q : D → Prop) : Prop :=
  match as with
  | [.lst l] => ∃ bs, boolsOf l = some bs ∧ Q (.bl (bs.any id))
  | _ => False
/-- the greatest, the least -/
def maxI : List Int → Int
  | [] => 0
  | x :: r => if r = [] then x else if maxI r > x then maxI r else x
def minI : List Int → Int
  | [] => 0
  | x :: r => if r = [] then x else if minI r < x then minI r else x
def maxLP (as : List D) (Q : D → Prop) : Prop :=
  match as with
  | [.lst l] => ∃ ns, intsOf l = some ns ∧ ns ≠ [] ∧ Q (.int (maxI ns))
  | _ => False
def minLP (as : List D) (Q : D → Prop) : Prop :=
  match as with
  | [.lst l] => ∃ ns, intsOf l = some ns ∧ ns ≠ [] ∧ Q (.int (minI ns))
  | _ => False
/-- the least of a list of pairs of ints, in their order -/
def ltP (p q : Int × Int) : Bool := decide (p.1 < q.1 ∨ (p.1 = q.1 ∧ p.2 < q.2))
def mnP (x : Int × Int) (xs : List (Int × Int)) : Int × Int := xs.foldl (fun a y => if ltP y a = true then y else a) x
abbrev pairD (p : Int × Int) : D := .tup [.int p.1, .int p.2]
def minPP (as : List D) (Q : D → Prop) : Prop :=
  match as with
  | [.lst l] => ∃ p0 ps, l = (p0 :: ps).map pairD ∧ Q (pairD (mnP p0 ps))
  | _ => False
/-- a list of pairs of ints in their order -/
def sortPP (as : List D) (Q : D → Prop) : Prop :=
  match as with
  | [.lst l] => ∃ ps, l = ps.map pairD ∧ ∀ qs : List (Int × Int), qs.Perm ps → qs.Pairwise (fun a b => ltP b a = false) → Q (.lst (qs.map pairD))
  | _ => False
/-- list(d): its keys -/
def listDP (as : List D) (Q : D → Prop) : Prop :=
  match as with
  | [.dic l] => Q (.lst (l.map (·.1)))
  | _ => False
/-- dict(l), l a list of pairs whose first ones are unlike ints -/
def dpairsP (as : List D) (Q : D → Prop) : Prop :=
  match as with
  | [.lst l] => ∃ kvs : List (Int × D), l = (kvs.map fun q => D.tup [.int q.1, q.2]) ∧ (kvs.map (·.1)).Nodup ∧ Q (.dic (kvs.map fun q => (.int q.1, q.2)))
  | _ => False
/-- str(i), i a digit -/
def strIP (as : List D) (Q : D → Prop) : Prop :=
  match as with
  | [.int i] => 0 ≤ i ∧ i < 10 ∧ Q (.str [48 + i.toNat])
  | _ => False
def bltP : Bl → List D → (D → Prop) → Prop
  | .len => lenP
  | .abs => absP
  | .int => intP
  | .max => maxP
  | .min => minP
  | .list => listP
  | .tuple => tupleP
  | .repr => reprP
  | .sorted => sortedP
  | .sum => sumP
  | .all => allP
  | .any => anyP
  | .maxL => maxLP
  | .minL => minLP
  | .minP => minPP
  | .sortP => sortPP
  | .listD => listDP
  | .dpairs => dpairsP
  | .strI => strIP

/-- the type of a value -/
def tyOf : D → Option String
  | .non => some "NoneType"
  | .bl _ => some "bool"
  | .int _ => some "int"
  | .str _ => some "str"
  | .tup _ => some "tuple"
  | .lst _ => some "list"
  | .dic _ => some "dict"
  | _ => none
def isTy (u t : String) : Bool := u == t || (u == "bool" && t == "int")

/-- the list of the intsOf from lo on, n of them -/
def enumL (a : Int) (n : Nat) : List (D × D) := (List.range n).map fun (i : Nat) => (D.int (i : Int), D.int (a + (i : Int)))
def rangeL (lo : Int) (n : Nat) : List D := (List.range n).map fun (k : Nat) => D.int (lo + (k : Int))

/-- lo, lo - 1, .. (n of them) -/
def downL (lo : Int) (n : Nat) : List D := (List.range n).map fun (k : Nat) => D.int (lo - (k : Int))

/-- patterns of names that something is given to -/
inductive T where
  | var (i : Nat)
  | tup (ts : List T)

/-- methods that change a list or dict -/
inductive Mu where
  | append | pop | extend
mutual
inductive E where
  | lit (d : D)
  | var (i : Nat)
  | glob (x : String)
  | tup (es : List E)
  | lst (es : List E)
  | dnew
  | dict (ks : List D) (es : List E)
  | dict1 (k v : E)
  | dcomp (own : List Nat) (k v : E) (t : T) (it : I) (conds : List E)
  | dflat3 (own : List Nat) (it : I) (d : D)
  | dvals (a : E)
  | indexOf (a k : E)
  | tupS (bs : List Bool) (es : List E)
  | lstS (bs : List Bool) (es : List E)
  | isInst (a : E) (ts : List String)
  | gget (x : String) (k : E)
  | gget2 (x : String) (k d : E)
  | gidx (x : String) (k : E)
  | gmem (neg : Bool) (x : String) (k : E)
  | gcd (a b : E)
  | lrange (a : E)
  | lrange2 (a b : E)
  | denum2 (a b : E)
  | sset (a : E)
  | ssetS (a : E)
  | state (fs : List (List Nat × E))
  | neg (a : E)
  | bin (op : BOp) (a b : E)
  | cmp (op : COp) (a b : E)
  | chain (op op' : COp) (a b c : E)
  | and_ (a b : E)
  | or_ (a b : E)
  | not_ (a : E)
  | ite (c a b : E)
  | idx (a k : E)
  | slice (a : E) (lo hi : Option E)
  | rev (a : E)
  | stepS (a s : E)
  | call (f : String) (ls : List Bool) (es : List E)
  | blt (f : Bl) (es : List E)
  | dget (a k : E)
  | dget2 (a k d : E)
  | mut (m : Mu) (i : Nat) (es : List E)
  | mutF (m : Mu) (i : Nat) (f : List Nat)
  | comp (own : List Nat) (elt : E) (t : T) (it : I) (conds : List E)
inductive I where
  | seq (e : E)
  | rng (a : E)
  | rng2 (a b : E)
  | rngD (a b : E)
  | rngL (a b : E)
  | enum (e : E)
  | zip (a b : E)
  | items (a : E)
  | itemsAt (i j : Nat)
  | keys (a : E)
end

inductive S where
  | expr (e : E)
  | assign (t : T) (e : E)
  | par (is : List Nat) (es : List E)
  | setIdx (i : Nat) (k e : E)
  | aug (i : Nat) (op : BOp) (e : E)
  | ret (e : Option E)
  | ite (c : E) (a b : List S)
  | for_ (dead : List Nat) (t : T) (it : I) (body : List S)
  | while_ (dead : List Nat) (c : E) (body : List S)
  | brk
  | cont
  | pass

/-- a def's call: its name, arguments, the store, what is wanted of level and value and store, what of an exception -/
abbrev CallFn := String → List D → Store → (Nat → D → Store → Prop) → (D → Store → Prop) → Prop
abbrev Post := Kd → D → Env → Store → Prop
abbrev XPost := D → Env → Store → Prop

/-- a value that is kept elsewhere too from now on -/
def esc (k : Kd) (env : Env) (K : Env → Prop) : Prop :=
  match k with
  | .fz => K env
  | .fresh => K env
  | .bor i => ∃ d, env[i]? = some (some (1, d)) ∧ K (env.set i (some (0, d)))
  | .borF _ _ => False

/-- a value that is walked: it does not change while it is -/
def escI (k : Kd) (env : Env) (K : Env → Prop) : Prop :=
  match k with
  | .fz => K env
  | .fresh => K env
  | .bor i => match env[i]? with
    | some (some (0, _)) => False
    | some (some (1, d)) => K (env.set i (some (0, d)))
    | some (some (_ + 2, _)) => K env
    | _ => False
  | .borF _ _ => False
/-- what was read by a name still stands there -/
def kept (k : Kd) (env env' : Env) (μ μ' : Store) : Prop :=
  match k with
  | .bor i => env'[i]? = env[i]?
  | .borF _ _ => False
  | _ => True

/-- a value is given to a name -/
def give (i : Nat) (k : Kd) (d : D) (env : Env) (K : Env → Prop) : Prop :=
  match k with
  | .fz => K (env.set i (some (0, d)))
  | .fresh => K (env.set i (some (1, d)))
  | k => esc k env fun env => K (env.set i (some (0, d)))

mutual
def giveT : T → Kd → D → Env → (Env → Prop) → Prop
  | .var i, k, d, env, K => give i k d env K
  | .tup ts, _, d, env, K => ∃ l, itemsOf d = some l ∧ l.length = ts.length ∧ giveL ts l env K
def giveL : List T → List D → Env → (Env → Prop) → Prop
  | [], l, env, K => l = [] ∧ K env
  | t :: ts, l, env, K => ∃ d r, l = d :: r ∧ giveT t .fz d env fun env => giveL ts r env K
end

def wipeE (env : Env) : List Nat → Env
  | [] => env
  | v :: vs => (wipeE env vs).set v none
/-- names of a block that hold nothing that may be changed, in the frame around it -/
def outOk (env : Env) (own : List Nat) : Bool := own.all fun i => match env[i]? with
  | some (some (l, _)) => l == 0
  | _ => true
/-- behind a block: its own names as they were -/
def back (env env' : Env) : List Nat → Env
  | [] => env'
  | v :: vs => (back env env' vs).set v (match env[v]? with | some x => x | none => none)

/-- changes of a list or dict -/
def mutP (m : Mu) (l : List D) (as : List D) (Q : List D → D → Prop) : Prop :=
  match m, as with
  | .append, [x] => l.length < big ∧ Q (l ++ [x]) .non
  | .pop, [] => ∃ x, l[l.length - 1]? = some x ∧ Q l.dropLast x
  | .pop, [.int i] => ∃ n x, ixN l.length i = some n ∧ l[n]? = some x ∧ (-9223372036854775808 ≤ i ∧ i < 9223372036854775808) ∧ Q (l.eraseIdx n) x
  | .extend, [.lst r] => l.length + r.length ≤ big ∧ Q (l ++ r) .non
  | _, _ => False
/-- d[k] = v -/
def setP (d k v : D) (Q : D → Prop) : Prop :=
  match d, k with
  | .lst l, .int i => ∃ n, (0 ≤ i ∧ i < 9223372036854775808 ∧ i.toNat = n) ∧ n < l.length ∧ Q (.lst (l.set n v))
  | .dic kvs, k => isKey k = true ∧ kvs.length < big ∧ Q (.dic (dput kvs k v))
  | _, _ => False

def compLoop (step : D → Env → Store → (Option D → Env → Store → Prop) → Prop) : List D → List D → Env → Store → (List D → Env → Store → Prop) → Prop
  | [], acc, env, μ, K => K acc env μ
  | x :: xs, acc, env, μ, K => step x env μ fun o env' μ' => match o with
    | none => compLoop step xs acc env' μ' K
    | some d => acc.length < big ∧ compLoop step xs (acc ++ [d]) env' μ' K

def dcompLoop (step : D → Env → Store → (Option (D × D) → Env → Store → Prop) → Prop) : List D → List (D × D) → Env → Store → (List (D × D) → Env → Store → Prop) → Prop
  | [], acc, env, μ, K => K acc env μ
  | x :: xs, acc, env, μ, K => step x env μ fun o env' μ' => match o with
    | none => dcompLoop step xs acc env' μ' K
    | some q => acc.length < big ∧ dcompLoop step xs (dput acc q.1 q.2) env' μ' K

mutual
def wpE (C : CallFn) (G : String → Option D) (X : XPost) : E → Env → Store → Post → Prop
  | .lit d, env, μ, Q => Q .fz d env μ
  | .var i, env, μ, Q => ∃ l d, env[i]? = some (some (l, d)) ∧ Q (if l = 0 then .fz else .bor i) d env μ
  | .glob x, env, μ, Q => ∃ d, G x = some d ∧ Q .fz d env μ
  | .tup es, env, μ, Q => wpL C G X es env μ fun ds env μ => Q .fz (.tup ds) env μ
  | .lst es, env, μ, Q => wpL C G X es env μ fun ds env μ => Q .fresh (.lst ds) env μ
  | .dnew, env, μ, Q => Q .fresh (.dic []) env μ
  | .dict ks es, env, μ, Q => wpL C G X es env μ fun ds env μ => Q .fresh (.dic (ks.zip ds)) env μ
  | .dict1 k v, env, μ, Q => wpE C G X k env μ fun _ x env μ => wpE C G X v env μ fun kd d env μ => esc kd env fun env => isKey x = true ∧ Q .fresh (.dic [(x, d)]) env μ
  | .dcomp own ek ev t it conds, env, μ, Q => wpI C G X it env μ fun xs env μ => outOk env own = true ∧
      dcompLoop (fun x env1 μ1 K => giveT t .fz x env1 fun env2 => wpC C G (fun _ _ _ => False) conds env2 μ1 fun c env3 μ3 =>
        if c = true then wpE C G (fun _ _ _ => False) ek env3 μ3 fun _ y env4 μ4 => wpE C G (fun _ _ _ => False) ev env4 μ4 fun kd d env5 μ5 => esc kd env5 fun env6 => isKey y = true ∧ K (some (y, d)) (wipeE env6 own) μ5
        else K none (wipeE env3 own) μ3)
        xs [] (wipeE env own) μ fun acc env' μ' => Q .fresh (.dic acc) (back env env' own) μ'
  | .dflat3 own it d, env, μ, Q => wpI C G X it env μ fun xs env μ => outOk env own = true ∧ ∃ wss : List (List (List (List Nat))), xs = wss.map (fun ls => D.tup (ls.map fun l => D.tup (l.map .str))) ∧ wss.flatten.flatten.length < big ∧
      Q .fresh (.dic (wss.flatten.flatten.foldl (fun acc s => dput acc (.str s) d) [])) (back env (wipeE env own) own) μ
  | .dvals a, env, μ, Q => wpE C G X a env μ fun _ x env μ => ∃ kvs, x = .dic kvs ∧ Q .fresh (.lst (kvs.map (·.2))) env μ
  | .indexOf a k, env, μ, Q => wpE C G X a env μ fun ka x env μ => ∃ l, x = .lst l ∧ wpE C G X k env μ fun _ y env' μ' => kept ka env env' μ μ' ∧ ∃ j : Nat, plain y 60 = true ∧ plainL l 59 = true ∧ l.findIdx? (pyEq · y) = some j ∧ Q .fz (.int (j : Int)) env' μ'
  | .tupS bs es, env, μ, Q => wpLS C G X bs es env μ fun ds env μ => ds.length ≤ big ∧ Q .fz (.tup ds) env μ
  | .lstS bs es, env, μ, Q => wpLS C G X bs es env μ fun ds env μ => ds.length ≤ big ∧ Q .fresh (.lst ds) env μ
  | .isInst a ts, env, μ, Q => wpE C G X a env μ fun _ x env μ => ∃ u, tyOf x = some u ∧ Q .fz (.bl (ts.any (isTy u ·))) env μ
  | .gget x k, env, μ, Q => wpE C G X k env μ fun _ y env μ => ∃ kvs s, G x = some (.dic kvs) ∧ y = .str s ∧ Q .fz ((dget kvs y).getD .non) env μ
  | .gget2 x k d, env, μ, Q => wpE C G X k env μ fun _ y env μ => wpE C G X d env μ fun kd w env μ => esc kd env fun env => ∃ kvs s, G x = some (.dic kvs) ∧ y = .str s ∧ Q .fz ((dget kvs y).getD w) env μ
  | .gidx x k, env, μ, Q => wpE C G X k env μ fun _ y env μ => ∃ kvs s d, G x = some (.dic kvs) ∧ y = .str s ∧ dget kvs y = some d ∧ Q .fz d env μ
  | .gmem neg x k, env, μ, Q => wpE C G X k env μ fun _ y env μ => ∃ kvs s, G x = some (.dic kvs) ∧ y = .str s ∧ Q .fz (.bl (xor neg (dget kvs y).isSome)) env μ
  | .gcd a b, env, μ, Q => wpE C G X a env μ fun _ x env μ => wpE C G X b env μ fun _ y env μ => ∃ i j, (x = .int i ∧ y = .int j) ∧ Q .fz (.int ((Nat.gcd i.natAbs j.natAbs : Nat) : Int)) env μ
  | .lrange a, env, μ, Q => wpE C G X a env μ fun _ x env μ => ∃ j, x = .int j ∧ (-4611686018427387904 ≤ j ∧ j < 16777216) ∧ Q .fresh (.lst (rangeL 0 j.toNat)) env μ
  | .lrange2 a b, env, μ, Q => wpE C G X a env μ fun _ x env μ => wpE C G X b env μ fun _ y env μ => ∃ i j, (x = .int i ∧ y = .int j) ∧ (j - i).toNat ≤ 8388608 ∧ Q .fresh (.lst (rangeL i (j - i).toNat)) env μ
  | .denum2 a b, env, μ, Q => wpE C G X a env μ fun _ x env μ => wpE C G X b env μ fun _ y env μ => ∃ i j, (x = .int i ∧ y = .int j) ∧ (0 ≤ i ∧ i ≤ 8388608 ∧ 0 ≤ j ∧ j ≤ 8388608) ∧ Q .fresh (.dic (enumL i (j - i).toNat)) env μ
  | .sset a, env, μ, Q => wpE C G X a env μ fun _ x env μ => ssetP x fun d => Q .fresh d env μ
  | .ssetS a, env, μ, Q => wpE C G X a env μ fun _ x env μ => ssetSP x fun d => Q .fresh d env μ
  | .state fs, env, μ, Q => wpF C G X fs env μ fun fs env μ => Q .fz (.ref μ.length) env (μ ++ [⟨"dict", fs⟩])
  | .neg a, env, μ, Q => wpE C G X a env μ fun _ x env μ => ∃ i, x = .int i ∧ Q .fz (.int (-i)) env μ
  | .bin op a b, env, μ, Q => wpE C G X a env μ fun k x env μ => wpE C G X b env μ fun _ y env' μ' => kept k env env' μ μ' ∧ bin op x y fun d => Q (kindOf d) d env' μ'
  | .cmp op a b, env, μ, Q => wpE C G X a env μ fun k x env μ => wpE C G X b env μ fun _ y env' μ' => kept k env env' μ μ' ∧ cmpP op x y fun c => Q .fz (.bl c) env' μ'
  | .chain op op' a b c, env, μ, Q => wpE C G X a env μ fun k x env μ => wpE C G X b env μ fun k' y env' μ' => kept k env env' μ μ' ∧ cmpP op x y fun t =>
      if t = true then wpE C G X c env' μ' fun _ z env'' μ'' => kept k' env' env'' μ' μ'' ∧ cmpP op' y z fun u => Q .fz (.bl u) env'' μ'' else Q .fz (.bl false) env' μ'
  | .and_ a b, env, μ, Q => wpE C G X a env μ fun k x env μ => tru x fun t => if t = true then wpE C G X b env μ Q else Q k x env μ
  | .or_ a b, env, μ, Q => wpE C G X a env μ fun k x env μ => tru x fun t => if t = true then Q k x env μ else wpE C G X b env μ Q
  | .not_ a, env, μ, Q => wpE C G X a env μ fun _ x env μ => tru x fun t => Q .fz (.bl (!t)) env μ
  | .ite c a b, env, μ, Q => wpE C G X c env μ fun _ x env μ => tru x fun t => if t = true then wpE C G X a env μ Q else wpE C G X b env μ Q
  | .idx a k, env, μ, Q => wpE C G X a env μ fun ka x env μ => wpE C G X k env μ fun _ y env' μ' => kept ka env env' μ μ' ∧ idxP x y μ' fun kd d => Q kd d env' μ'
  | .slice a lo hi, env, μ, Q => wpE C G X a env μ fun ka x env μ => wpO C G X lo env μ fun l env1 μ1 => ∃ i, optI l = some i ∧ wpO C G X hi env1 μ1 fun h env2 μ2 => ∃ j, optI h = some j ∧ kept ka env env2 μ μ2 ∧ sliceP x i j fun d => Q (kindOf d) d env2 μ2
  | .rev a, env, μ, Q => wpE C G X a env μ fun _ x env μ => revP x fun d => Q (kindOf d) d env μ
  | .stepS a s, env, μ, Q => wpE C G X a env μ fun k x env μ => wpE C G X s env μ fun _ y env' μ' => kept k env env' μ μ' ∧ ∃ l i, (x = .lst l ∧ y = .int i) ∧ ((i = 1 ∧ Q .fresh (.lst l) env' μ') ∨ (i = -1 ∧ Q .fresh (.lst l.reverse) env' μ'))
  | .call f ls es, env, μ, Q => wpA C G X ls es env μ fun ds env μ => C f ds μ (fun l d μ' => Q (if l = 0 then .fz else .fresh) d env μ') (fun x μ' => X x env μ')
  | .blt f es, env, μ, Q => wpB C G X es env μ fun ds env μ => bltP f ds fun d => Q (kindOf d) d env μ
  | .dget a k, env, μ, Q => wpE C G X a env μ fun ka x env μ => ∃ kvs, x = .dic kvs ∧ wpE C G X k env μ fun _ y env1 μ1 => kept ka env env1 μ μ1 ∧ isKey y = true ∧ Q .fz ((dget kvs y).getD .non) env1 μ1
  | .dget2 a k d, env, μ, Q => wpE C G X a env μ fun ka x env μ => ∃ kvs, x = .dic kvs ∧ wpE C G X k env μ fun _ y env1 μ1 => wpE C G X d env1 μ1 fun kd w env2 μ2 => esc kd env2 fun env3 =>
      kept ka env env3 μ μ2 ∧ isKey y = true ∧ Q .fz ((dget kvs y).getD w) env3 μ2
  | .mut m i es, env, μ, Q => ∃ l0, env[i]? = some (some (1, .lst l0)) ∧ wpL C G X es env μ fun ds env μ => ∃ l, env[i]? = some (some (1, .lst l)) ∧ mutP m l ds fun l' r => Q .fz r (env.set i (some (1, .lst l'))) μ
  | .mutF m i f, env, μ, Q => ∃ n o l, env[i]? = some (some (0, .ref n)) ∧ μ[n]? = some o ∧ o.cls = "dict" ∧ getF o f = some (1, .lst l) ∧ mutP m l [] fun l' r => Q .fz r env (μ.set n (setF o f (1, .lst l')))
  | .comp own elt t it conds, env, μ, Q => wpI C G X it env μ fun xs env μ => outOk env own = true ∧
      compLoop (fun x env1 μ1 K => giveT t .fz x env1 fun env2 => wpC C G (fun _ _ _ => False) conds env2 μ1 fun c env3 μ3 =>
        if c = true then wpE C G (fun _ _ _ => False) elt env3 μ3 fun kd d env4 μ4 => esc kd env4 fun env5 => K (some d) (wipeE env5 own) μ4
        else K none (wipeE env3 own) μ3)
        xs [] (wipeE env own) μ fun acc env' μ' => Q .fresh (.lst acc) (back env env' own) μ'
/-- members that are kept in a new thing -/
def wpL (C : CallFn) (G : String → Option D) (X : XPost) : List E → Env → Store → (List D → Env → Store → Prop) → Prop
  | [], env, μ, Q => Q [] env μ
  | e :: r, env, μ, Q => wpE C G X e env μ fun k x env μ => esc k env fun env => wpL C G X r env μ fun xs env μ => Q (x :: xs) env μ
/-- members, some of them told by a walk -/
def wpLS (C : CallFn) (G : String → Option D) (X : XPost) : List Bool → List E → Env → Store → (List D → Env → Store → Prop) → Prop
  | _, [], env, μ, Q => Q [] env μ
  | bs, e :: r, env, μ, Q => wpE C G X e env μ fun k x env μ =>
      if bs.head? = some true then ∃ l, itemsOf x = some l ∧ wpLS C G X bs.tail r env μ fun xs env μ => Q (l ++ xs) env μ
      else esc k env fun env => wpLS C G X bs.tail r env μ fun xs env μ => Q (x :: xs) env μ
/-- members of a new object -/
def wpF (C : CallFn) (G : String → Option D) (X : XPost) : List (List Nat × E) → Env → Store → (List (List Nat × Nat × D) → Env → Store → Prop) → Prop
  | [], env, μ, Q => Q [] env μ
  | (f, e) :: r, env, μ, Q => wpE C G X e env μ fun k x env μ => esc k env fun env => wpF C G X r env μ fun xs env μ => Q ((f, (match k with | .fresh => 1 | _ => 0), x) :: xs) env μ
/-- arguments of a def -/
def wpA (C : CallFn) (G : String → Option D) (X : XPost) : List Bool → List E → Env → Store → (List D → Env → Store → Prop) → Prop
  | _, [], env, μ, Q => Q [] env μ
  | ls, e :: r, env, μ, Q => wpE C G X e env μ fun k x env μ =>
      if ls.head? = some true then wpA C G X ls.tail r env μ fun xs env' μ' => kept k env env' μ μ' ∧ Q (x :: xs) env' μ'
      else esc k env fun env => wpA C G X ls.tail r env μ fun xs env μ => Q (x :: xs) env μ
/-- arguments that are only looked at -/
def wpB (C : CallFn) (G : String → Option D) (X : XPost) : List E → Env → Store → (List D → Env → Store → Prop) → Prop
  | [], env, μ, Q => Q [] env μ
  | e :: r, env, μ, Q => wpE C G X e env μ fun k x env μ => match r with
    | [] => Q [x] env μ
    | r => wpB C G X r env μ fun xs env' μ' => kept k env env' μ μ' ∧ Q (x :: xs) env' μ'
def wpO (C : CallFn) (G : String → Option D) (X : XPost) : Option E → Env → Store → (Option D → Env → Store → Prop) → Prop
  | none, env, μ, Q => Q none env μ
  | some e, env, μ, Q => wpE C G X e env μ fun _ x env μ => Q (some x) env μ
/-- tests, one after another -/
def wpC (C : CallFn) (G : String → Option D) (X : XPost) : List E → Env → Store → (Bool → Env → Store → Prop) → Prop
  | [], env, μ, Q => Q true env μ
  | e :: r, env, μ, Q => wpE C G X e env μ fun _ x env μ => tru x fun t => if t = true then wpC C G X r env μ Q else Q false env μ
/-- what is walked -/
def wpI (C : CallFn) (G : String → Option D) (X : XPost) : I → Env → Store → (List D → Env → Store → Prop) → Prop
  | .seq e, env, μ, Q => wpE C G X e env μ fun k x env μ => ∃ l, itemsOf x = some l ∧ escI k env fun env => Q l env μ
  | .rng a, env, μ, Q => wpE C G X a env μ fun _ x env μ => ∃ j, x = .int j ∧ (-4611686018427387904 ≤ j ∧ j < 4611686018427387904) ∧ Q (rangeL 0 j.toNat) env μ
  | .rng2 a b, env, μ, Q => wpE C G X a env μ fun _ x env μ => wpE C G X b env μ fun _ y env μ => ∃ i j, (x = .int i ∧ y = .int j) ∧ (-4611686018427387904 ≤ i ∧ i < 4611686018427387904 ∧ -4611686018427387904 ≤ j ∧ j < 4611686018427387904) ∧ Q (rangeL i (j - i).toNat) env μ
  | .rngL a b, env, μ, Q => wpE C G X a env μ fun _ x env μ => wpE C G X b env μ fun _ y env μ => ∃ i j, (x = .int i ∧ y = .int j) ∧ Q (rangeL i (j - i).toNat) env μ
  | .rngD a b, env, μ, Q => wpE C G X a env μ fun _ x env μ => wpE C G X b env μ fun _ y env μ => ∃ i j, (x = .int i ∧ y = .int j) ∧ (-4611686018427387904 ≤ i ∧ i < 4611686018427387904 ∧ -4611686018427387904 ≤ j ∧ j < 4611686018427387904) ∧ Q (downL i (i - j).toNat) env μ
  | .enum e, env, μ, Q => wpE C G X e env μ fun k x env μ => ∃ l, x = .lst l ∧ escI k env fun env => Q (l.mapIdx fun n d => .tup [.int (n : Int), d]) env μ
  | .zip a b, env, μ, Q => wpE C G X a env μ fun k x env μ => escI k env fun env => wpE C G X b env μ fun k' y env μ => escI k' env fun env =>
      ∃ l m, ((x = .lst l ∧ y = .lst m) ∨ (x = .tup l ∧ y = .tup m)) ∧ Q (List.zipWith (fun c d => .tup [c, d]) l m) env μ
  | .items a, env, μ, Q => wpE C G X a env μ fun k x env μ => ∃ l, x = .dic l ∧ esc k env fun env => Q (l.map fun q => .tup [q.1, q.2]) env μ
  | .itemsAt i j, env, μ, Q => ∃ l kvs l' y kvs', (env[i]? = some (some (l, .dic kvs)) ∧ env[j]? = some (some (l', y))) ∧ isKey y = true ∧ dget kvs y = some (.dic kvs') ∧ Q (kvs'.map fun q => .tup [q.1, q.2]) env μ
  | .keys a, env, μ, Q => wpE C G X a env μ fun k x env μ => ∃ l, x = .dic l ∧ esc k env fun env => Q (l.map (·.1)) env μ
end

/-- values for some names at once -/
def wpP (C : CallFn) (G : String → Option D) (X : XPost) : List E → Env → Store → (List (Nat × D) → Env → Store → Prop) → Prop
  | [], env, μ, Q => Q [] env μ
  | e :: r, env, μ, Q => wpE C G X e env μ fun k x env μ => esc k env fun env => wpP C G X r env μ fun xs env μ => Q (((match k with | .fresh => 1 | _ => 0), x) :: xs) env μ

structure Ends where
  nx : Env → Store → Prop
  rt : Nat → D → Store → Prop
  bk : Env → Store → Prop
  ct : Env → Store → Prop
  xc : XPost

def retK (k : Kd) (env : Env) (d : D) (R : Nat → D → Prop) : Prop :=
  match k with
  | .fz => R 0 d
  | .fresh => R 1 d
  | .bor i => (∃ d', env[i]? = some (some (1, d'))) ∧ R 1 d
  | .borF _ _ => False

def forLoop (body : D → Env → Store → (Env → Store → Prop) → Prop) : List D → Env → Store → (Env → Store → Prop) → Prop
  | [], env, μ, K => K env μ
  | x :: xs, env, μ, K => body x env μ fun env' μ' => forLoop body xs env' μ' K
def whileLoop (body : Env → Store → (Env → Store → Prop) → (Env → Store → Prop) → Prop) : Nat → Env → Store → (Env → Store → Prop) → Prop
  | 0, _, _, _ => False
  | n + 1, env, μ, K => body env μ K fun env' μ' => whileLoop body n env' μ' K

mutual
def wpS (C : CallFn) (G : String → Option D) : S → Ends → Env → Store → Prop
  | .expr e, E, env, μ => wpE C G E.xc e env μ fun _ _ env μ => E.nx env μ
  | .assign t e, E, env, μ => wpE C G E.xc e env μ fun k d env μ => giveT t k d env fun env => E.nx env μ
  | .par is es, E, env, μ => wpP C G E.xc es env μ fun ds env μ => E.nx ((is.zip ds).foldl (fun env p => env.set p.1 (some p.2)) env) μ
  | .setIdx i k e, E, env, μ => wpE C G E.xc e env μ fun ke x env μ => esc ke env fun env => (∃ q, env[i]? = some (some q)) ∧ wpE C G E.xc k env μ fun _ y env μ =>
      (∃ d, env[i]? = some (some (1, d)) ∧ setP d y x fun d' => E.nx (env.set i (some (1, d'))) μ) ∨
      (∃ n o f l d, env[i]? = some (some (0, .ref n)) ∧ μ[n]? = some o ∧ o.cls = "dict" ∧ y = .str f ∧ getF o f = some (l, d) ∧ o.fs.length < big ∧ E.nx env (μ.set n (setF o f ((match ke with | .fresh => 1 | _ => 0), x))))
  | .aug i op e, E, env, μ => ∃ x, env[i]? = some (some (0, x)) ∧ wpE C G E.xc e env μ fun _ y env μ => (∃ p q, x = .int p ∧ y = .int q) ∧ bin op x y fun d => E.nx (env.set i (some (0, d))) μ
  | .ret none, E, env, μ => E.rt 0 .non μ
  | .ret (some e), E, env, μ => wpE C G E.xc e env μ fun k d env μ => retK k env d fun l d => E.rt l d μ
  | .ite c a b, E, env, μ => wpE C G E.xc c env μ fun _ x env μ => tru x fun t => if t = true then wpSs C G a E env μ else wpSs C G b E env μ
  | .for_ dead t it body, E, env, μ => wpI C G E.xc it env μ fun xs env μ =>
      forLoop (fun x env1 μ1 K => giveT t .fz x env1 fun env2 => wpSs C G body { E with nx := fun e3 μ3 => K (wipeE e3 dead) μ3, ct := fun e3 μ3 => K (wipeE e3 dead) μ3, bk := fun e3 μ3 => E.nx (wipeE e3 dead) μ3 } env2 μ1)
        xs (wipeE env dead) μ E.nx
  | .while_ dead c body, E, env, μ => ∃ n, whileLoop (fun env1 μ1 K Nx => wpE C G E.xc c env1 μ1 fun _ x env2 μ2 => tru x fun t => if t = true then wpSs C G body { E with nx := fun e3 μ3 => Nx (wipeE e3 dead) μ3, ct := fun e3 μ3 => Nx (wipeE e3 dead) μ3, bk := fun e3 μ3 => K (wipeE e3 dead) μ3 } env2 μ2 else K env2 μ2)
        n (wipeE env dead) μ E.nx
  | .brk, E, env, μ => E.bk env μ
  | .cont, E, env, μ => E.ct env μ
  | .pass, E, env, μ => E.nx env μ
def wpSs (C : CallFn) (G : String → Option D) : List S → Ends → Env → Store → Prop
  | [], E, env, μ => E.nx env μ
  | s :: r, E, env, μ => wpS C G s { E with nx := fun env μ => wpSs C G r E env μ } env μ
end

/-- a def: which parameters are lent (looked at alone), how many names, its body -/
structure FD where
  lent : List Bool
  n : Nat
  body : List S
structure Prog where
  fn : String → Option FD
  gl : String → Option D
def start (fd : FD) (ds : List D) : Env := (List.zipWith (fun (l : Bool) d => some (if l then 2 else 0, d)) fd.lent ds) ++ List.replicate (fd.n - fd.lent.length) none
/-- calls nested at most so deep -/
def callN (P : Prog) : Nat → CallFn
  | 0 => fun _ _ _ _ _ => False
  | d + 1 => fun f ds μ Q X => ∃ fd, P.fn f = some fd ∧ ds.length = fd.lent.length ∧
      wpSs (callN P d) P.gl fd.body { nx := fun _ μ' => Q 0 .non μ', rt := Q, bk := fun _ _ => False, ct := fun _ _ => False, xc := fun x _ μ' => X x μ' } (start fd ds) μ
end Pv

set_option autoImplicit false
set_option linter.all false
set_option Elab.async false
set_option maxRecDepth 100000
/-! Pv over the hand layer: what stands in memory for data, and that each construct keeps it. -/
namespace Pv
open PySem PySem.Spec PyProof.Rows L2

/-- whose a thing in memory is, if it may be changed -/
inductive Own where
  | slot (i : Nat) | tmp | obj (n : Nat) | fld (n : Nat) (f : List Nat) | far | lent
abbrev WM := Addr → Option Own
/-- where things stand: the objects' addresses, whose things are, the heap -/
structure Ph where
  θ : List Addr
  W : WM
  H : Hp

def stay : Option Own → Bool
  | none => true
  | some .tmp => true
  | some .far => true
  | some .lent => true
  | _ => false

def updW (W : WM) (a : Addr) (o : Option Own) : WM := fun b => if b = a then o else W b
theorem updW_same {W : WM} {a : Addr} {o : Option Own} : updW W a o a = o := by unfold updW; rw [if_pos rfl]
theorem updW_ne {W : WM} {a b : Addr} {o : Option Own} (h : b ≠ a) : updW W a o b = W b := by unfold updW; rw [if_neg h]

abbrev toStr (s : List Nat) : Str := ⟨s.toArray⟩
def keyV : D → Option Key
  | .int i => some (.inl i)
  | .str s => some (.inr (toStr s))
  | _ => none

mutual
def toPy : D → PyData
  | .bl b => .bool b
  | .int i => .int i
  | .str s => .str (toStr s)
  | .tup l => .tuple (toPyL l)
  | .lst l => .list (toPyL l)
  | _ => .none
def toPyL : List D → List PyData
  | [] => []
  | d :: r => toPy d :: toPyL r
end

/-- a written list, tuple -/
def KL (K : PySem.W.Frag) (a : Addr) (xs : List V) : Prop :=
  ∃ (o : PySem.Obj) (its : Array Value) (n : Nat), K.lookup a = some o ∧ o.cls = .type "list" ∧ o.dict = none ∧ o.data = .seq its n ∧ its.size ≤ sizeLine ∧ Vals xs its.toList
def KT (K : PySem.W.Frag) (a : Addr) (xs : List V) : Prop :=
  ∃ (o : PySem.Obj) (its : Array Value) (n : Nat), K.lookup a = some o ∧ o.cls = .type "tuple" ∧ o.data = .seq its n ∧ its.size ≤ sizeLine ∧ Vals xs its.toList

/-- a list, a tuple, a dict that nothing changes any more -/
def ZL (p : Ph) (a : Addr) (vs : List V) : Prop := p.W a = none ∧ p.H a = some (.lst vs)
def ZT (K : PySem.W.Frag) (p : Ph) (a : Addr) (vs : List V) : Prop := KT K a vs ∨ (p.W a = none ∧ Rd p.H a (.tup vs))
def ZD (p : Ph) (a : Addr) (ps : List (Key × V)) : Prop := p.W a = none ∧ Rd p.H a (.dK ps)

mutual
/-- a value stands for data that nothing changes any more -/
def Fz (K : PySem.W.Frag) (p : Ph) : D → V → Prop
  | .non, v => v = .non
  | .bl b, v => v = .bl b
  | .int i, v => v = .int i
  | .str s, v => v = .str (toStr s)
  | .tup l, v => ∃ a vs, v = .ref a ∧ ZT K p a vs ∧ FzL K p l vs
  | .lst l, v => ∃ a vs, v = .ref a ∧ ZL p a vs ∧ FzL K p l vs
  | .dic l, v => ∃ a ps, v = .ref a ∧ ZD p a ps ∧ FzKV K p l ps
  | .ref n, v => ∃ a, p.θ[n]? = some a ∧ v = .ref a
  | .rep d, v => v = .str (toPy d).shown
  | .fn _, _ => False
def FzL (K : PySem.W.Frag) (p : Ph) : List D → List V → Prop
  | [], vs => vs = []
  | d :: r, vs => ∃ v ws, vs = v :: ws ∧ Fz K p d v ∧ FzL K p r ws
def FzKV (K : PySem.W.Frag) (p : Ph) : List (D × D) → List (Key × V) → Prop
  | [], ps => ps = []
  | (k, d) :: r, ps => ∃ q v qs, ps = (q, v) :: qs ∧ keyV k = some q ∧ Fz K p d v ∧ FzKV K p r qs
end

/-- what may be told of everything that stood: it stands, but for what is owned by names and objects -/
structure Step (p p' : Ph) : Prop where
  th : ∀ (n : Nat) (a : Addr), p.θ[n]? = some a → p'.θ[n]? = some a
  keep : ∀ a o, p.H a = some o → stay (p.W a) = true → p'.H a = some o ∧ p'.W a = p.W a
  dom : ∀ a, p.H a ≠ none → p'.H a ≠ none
/-- everything stands, some of it is owned no more -/
structure Loos (p p' : Ph) : Prop where
  th : p'.θ = p.θ
  hp : p'.H = p.H
  lo : ∀ a, p'.W a = p.W a ∨ p'.W a = none

theorem Step.refl {p : Ph} : Step p p := ⟨fun _ _ h => h, fun _ _ h _ => ⟨h, rfl⟩, fun _ h => h⟩
theorem Step.trans {p q r : Ph} (a : Step p q) (b : Step q r) : Step p r :=
  ⟨fun n x h => b.th n x (a.th n x h), fun x o h s => by
    obtain ⟨h1, w1⟩ := a.keep x o h s
    obtain ⟨h2, w2⟩ := b.keep x o h1 (by rw [w1]; exact s)
    exact ⟨h2, w2.trans w1⟩, fun x h => b.dom x (a.dom x h)⟩
theorem Loos.refl {p : Ph} : Loos p p := ⟨rfl, rfl, fun _ => .inl rfl⟩
theorem Loos.trans {p q r : Ph} (a : Loos p q) (b : Loos q r) : Loos p r :=
  ⟨b.th.trans a.th, b.hp.trans a.hp, fun x => by
    rcases b.lo x with h | h
    · rw [h]; exact a.lo x
    · exact .inr h⟩

/-- what keeps frozen things -/
structure Le (p p' : Ph) : Prop where
  th : ∀ (n : Nat) (a : Addr), p.θ[n]? = some a → p'.θ[n]? = some a
  keep : ∀ a u, p.W a = none → p.H a = some u → p'.W a = none ∧ p'.H a = some u
theorem Le.rd {p p' : Ph} (s : Le p p') {a : Addr} {u : HO} (w : p.W a = none) (r : Rd p.H a u) : p'.W a = none ∧ Rd p'.H a u := by
  rcases r with r | ⟨o, r⟩
  · obtain ⟨e, h⟩ := s.keep a _ w r
    exact ⟨e, .inl h⟩
  · obtain ⟨e, h⟩ := s.keep a _ w r
    exact ⟨e, .inr ⟨o, h⟩⟩
theorem Step.le {p p' : Ph} (s : Step p p') : Le p p' := ⟨s.th, fun a u w r => by
  obtain ⟨h, e⟩ := s.keep a _ r (by rw [w]; rfl)
  exact ⟨e.trans w, h⟩⟩
theorem Loos.le {p p' : Ph} (s : Loos p p') : Le p p' := ⟨fun n a h => by rw [s.th]; exact h, fun a u w r => ⟨(s.lo a).elim (fun e => e.trans w) id, by rw [s.hp]; exact r⟩⟩
theorem Le.trans {p q r : Ph} (a : Le p q) (b : Le q r) : Le p r := ⟨fun n x h => b.th n x (a.th n x h), fun x u w h => let ⟨h1, h2⟩ := a.keep x u w h; b.keep x u h1 h2⟩

mutual
theorem Fz.le {K : PySem.W.Frag} {p p' : Ph} (s : Le p p') : ∀ (d : D) (v : V), Fz K p d v → Fz K p' d v
  | .non, v, h => h
  | .bl b, v, h => h
  | .int i, v, h => h
  | .str s, v, h => h
  | .tup l, v, h => by
    obtain ⟨a, vs, e, z, r⟩ := h
    exact ⟨a, vs, e, z.imp id fun ⟨w, h⟩ => s.rd w h, FzL.le s l vs r⟩
  | .lst l, v, h => by
    obtain ⟨a, vs, e, ⟨w, h⟩, r⟩ := h
    exact ⟨a, vs, e, s.keep a _ w h, FzL.le s l vs r⟩
  | .dic l, v, h => by
    obtain ⟨a, vs, e, ⟨w, h⟩, r⟩ := h
    exact ⟨a, vs, e, s.rd w h, FzKV.le s l vs r⟩
  | .ref n, v, h => by
    obtain ⟨a, e, r⟩ := h
    exact ⟨a, s.th n a e, r⟩
  | .rep d, v, h => h
  | .fn _, v, h => h
theorem FzL.le {K : PySem.W.Frag} {p p' : Ph} (s : Le p p') : ∀ (d : List D) (v : List V), FzL K p d v → FzL K p' d v
  | [], v, h => h
  | d :: r, v, h => by
    obtain ⟨x, ws, e, z, t⟩ := h
    exact ⟨x, ws, e, Fz.le s d x z, FzL.le s r ws t⟩
theorem FzKV.le {K : PySem.W.Frag} {p p' : Ph} (s : Le p p') : ∀ (d : List (D × D)) (v : List (Key × V)), FzKV K p d v → FzKV K p' d v
  | [], v, h => h
  | (k, d) :: r, v, h => by
    obtain ⟨q, x, ws, e, kk, z, t⟩ := h
    exact ⟨q, x, ws, e, kk, Fz.le s d x z, FzKV.le s r ws t⟩
end

/-- a value stands for data that its owner alone holds; new beside N -/
def Ow (K : PySem.W.Frag) (p : Ph) (o : Own) (N : Hp) : D → V → Prop
  | .lst l, v => ∃ a vs, v = .ref a ∧ (p.W a = some o ∧ p.H a = some (.lst vs) ∧ N a = none) ∧ FzL K p l vs
  | .dic l, v => ∃ a ps, v = .ref a ∧ (p.W a = some o ∧ p.H a = some (.dK ps) ∧ N a = none) ∧ FzKV K p l ps
  | d, v => Fz K p d v
/-- data that is lent -/
def Ct (K : PySem.W.Frag) (p : Ph) : D → V → Prop
  | .lst l, v => ∃ a vs, v = .ref a ∧ ((p.W a = none ∨ p.W a = some .lent) ∧ Rd p.H a (.lst vs)) ∧ FzL K p l vs
  | .dic l, v => ∃ a ps, v = .ref a ∧ ((p.W a = none ∨ p.W a = some .lent) ∧ Rd p.H a (.dK ps)) ∧ FzKV K p l ps
  | d, v => Fz K p d v
/-- data whoever holds it -/
def An (K : PySem.W.Frag) (p : Ph) : D → V → Prop
  | .lst l, v => ∃ a vs, v = .ref a ∧ Rd p.H a (.lst vs) ∧ FzL K p l vs
  | .dic l, v => ∃ a ps, v = .ref a ∧ Rd p.H a (.dK ps) ∧ FzKV K p l ps
  | d, v => Fz K p d v
section
variable {K : PySem.W.Frag} {p p' : Ph} {o : Own} {N N' : Hp}
theorem Fz.an : ∀ {d : D} {v : V}, Fz K p d v → An K p d v
  | .lst l, v, h => by obtain ⟨a, vs, e, ⟨w, h⟩, r⟩ := h; exact ⟨a, vs, e, .inl h, r⟩
  | .dic l, v, h => by obtain ⟨a, vs, e, ⟨w, h⟩, r⟩ := h; exact ⟨a, vs, e, h, r⟩
  | .non, v, h => h
  | .bl b, v, h => h
  | .int i, v, h => h
  | .str s, v, h => h
  | .tup l, v, h => h
  | .ref n, v, h => h
  | .rep d, v, h => h
  | .fn _, v, h => h
theorem Ow.an : ∀ {d : D} {v : V}, Ow K p o N d v → An K p d v
  | .lst l, v, h => by obtain ⟨a, vs, e, ⟨w, h, _⟩, r⟩ := h; exact ⟨a, vs, e, .inl h, r⟩
  | .dic l, v, h => by obtain ⟨a, vs, e, ⟨w, h, _⟩, r⟩ := h; exact ⟨a, vs, e, .inl h, r⟩
  | .non, v, h => h
  | .bl b, v, h => h
  | .int i, v, h => h
  | .str s, v, h => h
  | .tup l, v, h => h
  | .ref n, v, h => h
  | .rep d, v, h => h
  | .fn _, v, h => h
theorem Ct.an : ∀ {d : D} {v : V}, Ct K p d v → An K p d v
  | .lst l, v, h => by obtain ⟨a, vs, e, ⟨w, h⟩, r⟩ := h; exact ⟨a, vs, e, h, r⟩
  | .dic l, v, h => by obtain ⟨a, vs, e, ⟨w, h⟩, r⟩ := h; exact ⟨a, vs, e, h, r⟩
  | .non, v, h => h
  | .bl b, v, h => h
  | .int i, v, h => h
  | .str s, v, h => h
  | .tup l, v, h => h
  | .ref n, v, h => h
  | .rep d, v, h => h
  | .fn _, v, h => h
theorem Fz.ct : ∀ {d : D} {v : V}, Fz K p d v → Ct K p d v
  | .lst l, v, h => by obtain ⟨a, vs, e, ⟨w, h⟩, r⟩ := h; exact ⟨a, vs, e, ⟨.inl w, .inl h⟩, r⟩
  | .dic l, v, h => by obtain ⟨a, vs, e, ⟨w, h⟩, r⟩ := h; exact ⟨a, vs, e, ⟨.inl w, h⟩, r⟩
  | .non, v, h => h
  | .bl b, v, h => h
  | .int i, v, h => h
  | .str s, v, h => h
  | .tup l, v, h => h
  | .ref n, v, h => h
  | .rep d, v, h => h
  | .fn _, v, h => h
/-- what is owned stays so where its own place stays -/
theorem Ow.le (s : Le p p') (k : ∀ a u, p.W a = some o → p.H a = some u → p'.W a = some o ∧ p'.H a = some u) (n : ∀ a, p.W a = some o → N a = none → N' a = none) : ∀ {d : D} {v : V}, Ow K p o N d v → Ow K p' o N' d v
  | .lst l, v, h => by
    obtain ⟨a, vs, e, ⟨w, h, z⟩, r⟩ := h
    obtain ⟨w', h'⟩ := k a _ w h
    exact ⟨a, vs, e, ⟨w', h', n a w z⟩, FzL.le s l vs r⟩
  | .dic l, v, h => by
    obtain ⟨a, vs, e, ⟨w, h, z⟩, r⟩ := h
    obtain ⟨w', h'⟩ := k a _ w h
    exact ⟨a, vs, e, ⟨w', h', n a w z⟩, FzKV.le s l vs r⟩
  | .non, v, h => h
  | .bl b, v, h => h
  | .int i, v, h => h
  | .str s, v, h => h
  | .tup l, v, h => Fz.le s _ _ h
  | .ref n, v, h => Fz.le (K := K) s (.ref n) v h
  | .rep d, v, h => h
  | .fn _, v, h => h
theorem Ct.step (s : Step p p') : ∀ {d : D} {v : V}, Ct K p d v → Ct K p' d v
  | .lst l, v, h => by
    obtain ⟨a, vs, e, ⟨w, h⟩, r⟩ := h
    have st : stay (p.W a) = true := by rcases w with w | w <;> rw [w] <;> rfl
    refine ⟨a, vs, e, ⟨?_, ?_⟩, FzL.le s.le l vs r⟩
    · rcases h with h | ⟨_, h⟩ <;> (rw [(s.keep a _ h st).2]; exact w)
    · rcases h with h | ⟨q, h⟩
      · exact .inl (s.keep a _ h st).1
      · exact .inr ⟨q, (s.keep a _ h st).1⟩
  | .dic l, v, h => by
    obtain ⟨a, vs, e, ⟨w, h⟩, r⟩ := h
    have st : stay (p.W a) = true := by rcases w with w | w <;> rw [w] <;> rfl
    refine ⟨a, vs, e, ⟨?_, ?_⟩, FzKV.le s.le l vs r⟩
    · rcases h with h | ⟨_, h⟩ <;> (rw [(s.keep a _ h st).2]; exact w)
    · rcases h with h | ⟨q, h⟩
      · exact .inl (s.keep a _ h st).1
      · exact .inr ⟨q, (s.keep a _ h st).1⟩
  | .non, v, h => h
  | .bl b, v, h => h
  | .int i, v, h => h
  | .str s, v, h => h
  | .tup l, v, h => Fz.le s.le _ _ h
  | .ref n, v, h => Fz.le (K := K) s.le (.ref n) v h
  | .rep d, v, h => h
  | .fn _, v, h => h
end

/-- what a name holds: frozen, its own, or lent -/
def VS (K : PySem.W.Frag) (N : Hp) (p : Ph) (i : Nat) : Nat → D → V → Prop
  | 0, d, v => Fz K p d v
  | 1, d, v => Ow K p (.slot i) N d v
  | _, d, v => Ct K p d v
/-- what a member of an object holds: frozen, or its own -/
def VF (K : PySem.W.Frag) (p : Ph) (n : Nat) (f : List Nat) : Nat → D → V → Prop
  | 0, d, v => Fz K p d v
  | _ + 1, d, v => Ow K p (.fld n f) (fun _ => none) d v
/-- the members of an object that is a dict by written keys -/
def FsR (K : PySem.W.Frag) (p : Ph) (n : Nat) : List (List Nat × Nat × D) → List (Key × V) → Prop
  | [], ps => ps = []
  | (f, l, d) :: r, ps => ∃ v qs, ps = (.inr (toStr f), v) :: qs ∧ VF K p n f l d v ∧ FsR K p n r qs
def ObR (K : PySem.W.Frag) (p : Ph) (n : Nat) (o : Obj) (a : Addr) : Prop :=
  (o.fs.map (·.1)).Nodup ∧ p.W a = some (.obj n) ∧ o.cls = "dict" ∧ ∃ ps, p.H a = some (.dK ps) ∧ FsR K p n o.fs ps
/-- the whole state of a def's body: N, the heap at its entry -/
structure SR (K : PySem.W.Frag) (N : Hp) (p : Ph) (env : Env) (μ : Store) (σ : L2.St) : Prop where
  len : env.length = σ.length
  slot : ∀ i l d, env[i]? = some (some (l, d)) → ∃ v, σ[i]? = some (some v) ∧ VS K N p i l d v
  st : p.θ.length = μ.length
  obj : ∀ n o, μ[n]? = some o → ∃ a, p.θ[n]? = some a ∧ ObR K p n o a
  lab : ∀ a o, p.W a = some o → ∃ u, p.H a = some u ∧ Mut (some u)
  dom : ∀ a, N a ≠ none → p.H a ≠ none
/-- how a value is held -/
def VR (K : PySem.W.Frag) (p0 p : Ph) (env : Env) (μ : Store) (σ : L2.St) : Kd → D → V → Prop
  | .fz, d, v => Fz K p d v
  | .fresh, d, v => Ow K p .tmp p0.H d v
  | .bor i, d, v => ∃ l, env[i]? = some (some (l + 1, d)) ∧ σ[i]? = some (some v)
  | .borF n f, d, v => ∃ o l, μ[n]? = some o ∧ getF o f = some (l + 1, d) ∧ ∃ a ps, p.θ[n]? = some a ∧ p.H a = some (.dK ps) ∧ valV ps (.inr (toStr f)) = some v

structure Ev where
  C : CallFn
  G : String → Option D
  X : XPost

def tE (K : PySem.W.Frag) (N : Hp) (z : Ev) (e : E) : TE := fun σ H Q => ∃ p env μ Po, p.H = H ∧ SR K N p env μ σ ∧ wpE z.C z.G z.X e env μ Po ∧
  ∀ k d env' μ' p' v, Po k d env' μ' → SR K N p' env' μ' σ → Step p p' → VR K p p' env' μ' σ k d v → Q v p'.H
theorem peImp {X : Cx} {e : Expr} {t t' : TE} (h : PE X e t) (hi : ∀ σ H Q, t' σ H Q → t σ H Q) : PE X e t' := ⟨fun pins s σ H Q I q => h.run pins s σ H Q I (hi σ H Q q)⟩
section
variable {X : Cx} {N : Hp} {z : Ev} {pos : Pos}
theorem pv_var {i : Nat} {x : Str} (hN : X.N[i]? = some x) (hv : Vis X.env.scope x) (hd : (x == ("__debug__" : Str)) = false := by decide) (hcd : (x == ("__classdict__" : Str)) = false := by decide) : PE X (.Name x pos) (tE X.K N z (.var i)) := by
  refine peImp (pe_var hN hv hd hcd) fun σ H Q h => ?_
  obtain ⟨p, env, μ, Po, rfl, sr, hw, post⟩ := h
  obtain ⟨l, d, e, po⟩ := hw
  obtain ⟨v, ev, vs⟩ := sr.slot i l d e
  refine ⟨v, ev, post _ d env μ p v po sr .refl ?_⟩
  cases l with
  | zero => exact vs
  | succ l => exact ⟨l, e, ev⟩
theorem lit_ {e : Expr} {d : D} {v : V} (h : PE X e (tC v)) (hv : ∀ p, Fz X.K p d v) : PE X e (tE X.K N z (.lit d)) := by
  refine peImp h fun σ H Q h => ?_
  obtain ⟨p, env, μ, Po, rfl, sr, po, post⟩ := h
  exact post .fz d env μ p v po sr .refl (hv p)
theorem pv_int {i : Int} {j : Nat} : PE X (.Constant (.int i) j pos) (tE X.K N z (.lit (.int i))) := lit_ pe_int fun _ => rfl
theorem pv_bl {b : Bool} {j : Nat} : PE X (.Constant (.bool b) j pos) (tE X.K N z (.lit (.bl b))) := lit_ pe_bl fun _ => rfl
theorem pv_non {j : Nat} : PE X (.Constant .none j pos) (tE X.K N z (.lit .non)) := lit_ pe_non fun _ => rfl
theorem pv_str {x : Str} {s : List Nat} {j : Nat} (h : x.cps.toList = s) : PE X (.Constant (.str x) j pos) (tE X.K N z (.lit (.str s))) := lit_ pe_str fun _ => by
  show V.str x = V.str ⟨s.toArray⟩
  rw [← h]
end
end Pv

set_option autoImplicit false
set_option linter.all false
set_option Elab.async false
set_option maxRecDepth 100000
namespace Pv
open PySem PySem.Spec PyProof.Rows L2
section
variable {K : PySem.W.Frag} {N : Hp} {p p' q : Ph} {env : Env} {μ : Store} {σ : L2.St}
/-- things came to it, nothing else changed -/
structure Ext (p p' : Ph) : Prop where
  th : p'.θ = p.θ
  keep : ∀ a o, p.H a = some o → p'.H a = some o ∧ p'.W a = p.W a
  lab : ∀ a o, p'.W a = some o → p.W a = some o ∨ ∃ u, p'.H a = some u ∧ Mut (some u)
theorem Ext.refl : Ext p p := ⟨rfl, fun _ _ h => ⟨h, rfl⟩, fun _ _ h => .inl h⟩
theorem Ext.step (e : Ext p p') : Step p p' := ⟨fun n a h => by rw [e.th]; exact h, fun a o h _ => e.keep a o h, fun a h => by
  cases q : p.H a with
  | none => exact absurd q h
  | some u => rw [(e.keep a u q).1]; exact fun z => nomatch z⟩
theorem Ext.le (e : Ext p p') : Le p p' := e.step.le
theorem Ow.ext (e : Ext p p') {o : Own} {N N' : Hp} (n : ∀ a, p.W a = some o → N a = none → N' a = none) {d : D} {v : V} (h : Ow K p o N d v) : Ow K p' o N' d v :=
  h.le e.le (fun a u w k => ⟨(e.keep a u k).2.trans w, (e.keep a u k).1⟩) n
theorem VS.ext (e : Ext p p') {i l : Nat} {d : D} {v : V} (h : VS K N p i l d v) : VS K N p' i l d v := by
  match l, h with
  | 0, h => exact Fz.le e.le _ _ h
  | 1, h => exact Ow.ext e (fun _ _ h => h) h
  | _ + 2, h => exact Ct.step e.step h
theorem FsR.ext (e : Ext p p') {n : Nat} : ∀ {fs : List (List Nat × Nat × D)} {ps : List (Key × V)}, FsR K p n fs ps → FsR K p' n fs ps
  | [], ps, h => h
  | (f, l, d) :: r, ps, h => by
    obtain ⟨v, qs, e1, z, t⟩ := h
    refine ⟨v, qs, e1, ?_, FsR.ext e t⟩
    cases l with
    | zero => exact Fz.le e.le _ _ z
    | succ l => exact Ow.ext e (fun _ _ h => h) z
theorem SR.ext (sr : SR K N p env μ σ) (e : Ext p p') : SR K N p' env μ σ where
  len := sr.len
  slot := fun i l d h => let ⟨v, a, b⟩ := sr.slot i l d h; ⟨v, a, b.ext e⟩
  st := by rw [e.th]; exact sr.st
  obj := fun n o h => by
    obtain ⟨a, h1, h2, h3, h4, ps, h5, h6⟩ := sr.obj n o h
    exact ⟨a, by rw [e.th]; exact h1, h2, (e.keep a _ h5).2.trans h3, h4, ps, (e.keep a _ h5).1, FsR.ext e h6⟩
  lab := fun a o h => by
    rcases e.lab a o h with h | h
    · obtain ⟨u, k, m⟩ := sr.lab a o h
      exact ⟨u, (e.keep a u k).1, m⟩
    · exact h
  dom := fun a h => e.step.dom a (sr.dom a h)
/-- a new value: owned by no one yet, or frozen -/
def VN (K : PySem.W.Frag) (p p' : Ph) (d : D) (v : V) : Prop :=
  match kindOf d with
  | .fresh => Ow K p' .tmp p.H d v
  | _ => Fz K p' d v
theorem new_lst {a : Addr} {ds : List D} {vs : List V} (h : p.H a = none) (r : FzL K p ds vs) :
    Ext p ⟨p.θ, updW p.W a (some .tmp), upd p.H a (.lst vs)⟩ ∧ VN K p ⟨p.θ, updW p.W a (some .tmp), upd p.H a (.lst vs)⟩ (.lst ds) (.ref a) := by
  have e : Ext p ⟨p.θ, updW p.W a (some .tmp), upd p.H a (.lst vs)⟩ := ⟨rfl, fun b o q => ⟨(upd_ne (ne_of_none q h)).trans q, updW_ne (ne_of_none q h)⟩, fun b o q => by
    by_cases hb : b = a
    · subst hb; exact .inr ⟨_, upd_same, trivial⟩
    · exact .inl ((updW_ne hb).symm.trans q)⟩
  exact ⟨e, a, vs, rfl, ⟨updW_same, upd_same, h⟩, FzL.le e.le _ _ r⟩
theorem new_dic {a : Addr} {ds : List (D × D)} {vs : List (Key × V)} (h : p.H a = none) (r : FzKV K p ds vs) :
    Ext p ⟨p.θ, updW p.W a (some .tmp), upd p.H a (.dK vs)⟩ ∧ VN K p ⟨p.θ, updW p.W a (some .tmp), upd p.H a (.dK vs)⟩ (.dic ds) (.ref a) := by
  have e : Ext p ⟨p.θ, updW p.W a (some .tmp), upd p.H a (.dK vs)⟩ := ⟨rfl, fun b o q => ⟨(upd_ne (ne_of_none q h)).trans q, updW_ne (ne_of_none q h)⟩, fun b o q => by
    by_cases hb : b = a
    · subst hb; exact .inr ⟨_, upd_same, trivial⟩
    · exact .inl ((updW_ne hb).symm.trans q)⟩
  exact ⟨e, a, vs, rfl, ⟨updW_same, upd_same, h⟩, FzKV.le e.le _ _ r⟩
theorem new_tup {a : Addr} {ds : List D} {vs : List V} (h : p.H a = none) (r : FzL K p ds vs) :
    Ext p ⟨p.θ, updW p.W a none, upd p.H a (.tup vs)⟩ ∧ Fz K ⟨p.θ, updW p.W a none, upd p.H a (.tup vs)⟩ (.tup ds) (.ref a) := by
  have e : Ext p ⟨p.θ, updW p.W a none, upd p.H a (.tup vs)⟩ := ⟨rfl, fun b o q => ⟨(upd_ne (ne_of_none q h)).trans q, updW_ne (ne_of_none q h)⟩, fun b o q => by
    by_cases hb : b = a
    · subst hb
      have : updW p.W b none b = some o := q
      rw [updW_same] at this; cases this
    · exact .inl ((updW_ne hb).symm.trans q)⟩
  exact ⟨e, a, vs, rfl, .inr ⟨updW_same, .inl upd_same⟩, FzL.le e.le _ _ r⟩
theorem FzL.length : ∀ {ds : List D} {vs : List V}, FzL K p ds vs → ds.length = vs.length
  | [], vs, h => by rw [show vs = [] from h]; rfl
  | d :: r, vs, h => by
    obtain ⟨v, ws, rfl, _, t⟩ := h
    simp [FzL.length t]
theorem FzL.nil : ∀ {ds : List D}, FzL K p ds [] → ds = []
  | [], h => rfl
  | d :: r, h => by obtain ⟨v, ws, e, _⟩ := h; cases e
theorem FzL.append : ∀ {ds es : List D} {vs ws : List V}, FzL K p ds vs → FzL K p es ws → FzL K p (ds ++ es) (vs ++ ws)
  | [], es, vs, ws, h, h' => by rw [show vs = [] from h]; exact h'
  | d :: r, es, vs, ws, h, h' => by
    obtain ⟨v, us, rfl, z, t⟩ := h
    exact ⟨v, us ++ ws, rfl, z, FzL.append t h'⟩
theorem FzL.get : ∀ {ds : List D} {vs : List V} {i : Nat} {d : D}, FzL K p ds vs → ds[i]? = some d → ∃ v, vs[i]? = some v ∧ Fz K p d v
  | [], vs, i, d, h, e => by simp at e
  | x :: r, vs, 0, d, h, e => by
    obtain ⟨v, us, rfl, z, t⟩ := h
    simp at e; subst e
    exact ⟨v, rfl, z⟩
  | x :: r, vs, i + 1, d, h, e => by
    obtain ⟨v, us, rfl, z, t⟩ := h
    obtain ⟨w, e1, z1⟩ := FzL.get (i := i) t (by simpa using e)
    exact ⟨w, by simpa using e1, z1⟩
theorem FzL.take : ∀ (n : Nat) {ds : List D} {vs : List V}, FzL K p ds vs → FzL K p (ds.take n) (vs.take n)
  | 0, ds, vs, h => by simp [FzL]
  | n + 1, [], vs, h => by rw [show vs = [] from h]; simp [FzL]
  | n + 1, d :: r, vs, h => by
    obtain ⟨v, us, rfl, z, t⟩ := h
    exact ⟨v, us.take n, rfl, z, FzL.take n t⟩
theorem FzL.drop : ∀ (n : Nat) {ds : List D} {vs : List V}, FzL K p ds vs → FzL K p (ds.drop n) (vs.drop n)
  | 0, ds, vs, h => h
  | n + 1, [], vs, h => by rw [show vs = [] from h]; simp [FzL]
  | n + 1, d :: r, vs, h => by
    obtain ⟨v, us, rfl, z, t⟩ := h
    exact FzL.drop n t
theorem FzL.rev : ∀ {ds : List D} {vs : List V}, FzL K p ds vs → FzL K p ds.reverse vs.reverse
  | [], vs, h => by rw [show vs = [] from h]; simp [FzL]
  | d :: r, vs, h => by
    obtain ⟨v, us, rfl, z, t⟩ := h
    rw [List.reverse_cons, List.reverse_cons]
    exact FzL.append (FzL.rev t) ⟨v, [], rfl, z, rfl⟩
theorem FzL.rep {ds : List D} {vs : List V} (h : FzL K p ds vs) : ∀ n : Nat, FzL K p (List.replicate n ds).flatten (List.replicate n vs).flatten
  | 0 => by simp [FzL]
  | n + 1 => by
    rw [List.replicate_succ, List.replicate_succ, List.flatten_cons, List.flatten_cons]
    exact FzL.append h (FzL.rep h n)
theorem FzL.set {d : D} {v : V} (z : Fz K p d v) : ∀ (i : Nat) {ds : List D} {vs : List V}, FzL K p ds vs → FzL K p (ds.set i d) (vs.set i v)
  | i, [], vs, h => by rw [show vs = [] from h]; simp [FzL]
  | 0, x :: r, vs, h => by
    obtain ⟨w, us, rfl, y, t⟩ := h
    exact ⟨v, us, rfl, z, t⟩
  | i + 1, x :: r, vs, h => by
    obtain ⟨w, us, rfl, y, t⟩ := h
    exact ⟨w, us.set i v, rfl, y, FzL.set z i t⟩
theorem FzL.erase : ∀ (i : Nat) {ds : List D} {vs : List V}, FzL K p ds vs → FzL K p (ds.eraseIdx i) (vs.eraseIdx i)
  | i, [], vs, h => by rw [show vs = [] from h]; simp [FzL]
  | 0, x :: r, vs, h => by
    obtain ⟨w, us, rfl, y, t⟩ := h
    exact t
  | i + 1, x :: r, vs, h => by
    obtain ⟨w, us, rfl, y, t⟩ := h
    exact ⟨w, us.eraseIdx i, rfl, y, FzL.erase i t⟩
end

section
variable {X : Cx} {N : Hp} {z : Ev} {pos : Pos} {pins : List (Addr × PySem.Obj)} {s : Shared} {σ : L2.St} {H : Hp}
theorem lstR (I : Inv X pins σ H s) {l : Addr} {xs : List V} (h : Rd H l (.lst xs)) : xs.length ≤ sizeLine ∧ ∃ (its : List Value) (n : Nat), Vals xs its ∧ xs.length = its.length ∧ s.heap.get? l = some { cls := .type "list", data := .seq its.toArray n } := by
  obtain ⟨z, its, n, r, e⟩ := h.ok I.hok
  exact ⟨z, its, n, r, r.length, e⟩
theorem op_catR : OpR X (binaryOp .Add) (fun x y H Q => ∃ l b xs zs, x = .ref l ∧ y = .ref b ∧ Rd H l (.lst xs) ∧ Rd H b (.lst zs) ∧ xs.length + zs.length ≤ sizeLine ∧ ∀ p, H p = none → Q (.ref p) (upd H p (.lst (xs ++ zs)))) := by
  intro pins s σ H x y v u Q I rx ry h
  obtain ⟨l, b, xs, zs, rfl, rfl, hH, hB, hz, q⟩ := h
  cases rx
  cases ry
  obtain ⟨z, its, n, r, hl, e⟩ := lstR I hH
  obtain ⟨z2, its2, n2, r2, hl2, e2⟩ := lstR I hB
  refine PySem.P.add_list e e2 ?_ (by rw [List.size_toArray, List.size_toArray]; omega)
  have ea : its.toArray ++ its2.toArray = (its ++ its2).toArray := by simp
  rw [ea]
  exact ⟨.ref _, _, I.lnew (t' := s.toks) (r.append r2) (by rw [List.length_append]; omega), rfl, q _ I.fresh⟩
theorem op_repR : OpR X (binaryOp .Mult) (fun x y H Q => ∃ l k xs, x = .ref l ∧ y = .int k ∧ Rd H l (.lst xs) ∧ -(2 ^ 63) ≤ k ∧ k < 2 ^ 63 ∧ xs.length * k.toNat ≤ sizeLine ∧
  ∀ p, H p = none → Q (.ref p) (upd H p (.lst (List.replicate k.toNat xs).flatten))) := by
  intro pins s σ H x y v u Q I rx ry h
  obtain ⟨l, k, xs, rfl, rfl, hH, h1, h2, hz, q⟩ := h
  cases rx
  obtain ⟨t, rfl⟩ := ry
  obtain ⟨z, its, n, r, hl, e⟩ := lstR I hH
  have hlen : its.toArray.size * k.toNat ≤ sizeLine := by rw [List.size_toArray, ← hl]; exact hz
  have hcap : ¬ its.toArray.size * k.toNat > (2 ^ 63 - 1) / 8 := by
    have : (sizeLine : Nat) ≤ (2 ^ 63 - 1) / 8 := by decide
    omega
  have hfit : ¬ (!Builtin.List.listFitsIndex k) = true := by
    rw [fitsIndex_both h1 h2]
    exact Bool.false_ne_true
  have hlong : ¬ Builtin.List.listTooLong (its.toArray.size * k.toNat) = true := by
    rw [notLongL hlen]
    exact Bool.false_ne_true
  have hnew : List.foldl (fun x1 x2 => x1 ++ x2) #[] (List.replicate (if its.toArray.isEmpty = true then 0 else k.toNat) its.toArray) = (List.replicate k.toNat its).flatten.toArray := by
    have f0 : ∀ m : Nat, List.foldl (fun x1 x2 => x1 ++ x2) #[] (List.replicate m its.toArray) = (List.replicate m its).flatten.toArray := fun m => by
      have := foldl_rep its m []
      rw [List.nil_append] at this
      exact this
    rw [f0]
    cases its with
    | nil => simp
    | cons a r' => rw [if_neg (by simp)]
  refine wpAny_binaryOp_repeat_ref (T := "list") (U := "int") (by decide) ⟨_, e, rfl⟩ (fun s' => typeIs_int s' k t) noFill_list_mul F.fills_int_mul F.slot_int_rmul repeat_list F.slot_int_index.lookup
    (call_meets F.slot_int_rmul (typeIs_int s k t) F.entry_int_rmul (F.args_int_rmul_2 _ _) (int___rmul___int_list k t l its.toArray n)
      ⟨e, rfl, ⟨_, e, rfl⟩, call_meets F.slot_list_mul ⟨_, e, rfl⟩ F.entry_list_mul (F.args_list_mul_2 _ _) (AutoListH.list___mul___list_int_3 l its.toArray n k t hfit hcap hlong) ⟨e, ?_⟩⟩)
  rw [hnew]
  exact ⟨.ref _, _, I.lnew (t' := s.toks) (r.rep k.toNat) (by rw [PyProof.Rows.lm_len_rep_flat, Nat.mul_comm]; exact hz), rfl, q _ I.fresh⟩

theorem tuple_mul1 (l : Addr) (items : Array Value) (n : Nat) (dd : Option Addr) (sl : Array (Option Value)) (x : Int) (u : Tok) (c0 : (decide (x < -(2 ^ 63)) || decide (x ≥ 2 ^ 63)) = false) (c1 : (items.isEmpty || x == 1) = true) :
    Meets (Builtin.«tuple.__mul__» ⟨[.ref l, .int x u], []⟩) (fun _ R s => s.heap.get? l = some { cls := .type "tuple", dict := dd, data := .seq items n, slots := sl } ∧ R (.ok (.ret (Value.ref l))) s) :=
  .of_wp fun prog w A R s h => by
    obtain ⟨hp, g, d, tk, os⟩ := s
    obtain ⟨hl, h⟩ := h
    have f1 := AutoSeq1.idx_int
    wp_walk using AutoSeq1.wpAny_loadPart' hl
    repeat (first
      | (refine wpAny_ite_false (decide_eq_false (by rw [c0]; exact Bool.false_ne_true)) ?_; wp_walk using AutoSeq1.wpAny_loadPart' hl)
      | (refine wpAny_ite_true (decide_eq_true c1) ?_; wp_walk using AutoSeq1.wpAny_loadPart' hl))
    exact ⟨_, rfl, h⟩
theorem tuple_mul0 (l : Addr) (items : Array Value) (n : Nat) (dd : Option Addr) (sl : Array (Option Value)) (x : Int) (u : Tok) (c0 : (decide (x < -(2 ^ 63)) || decide (x ≥ 2 ^ 63)) = false) (c1 : (items.isEmpty || x == 1) = false) (c2 : (decide (x ≤ 0) || items.isEmpty) = true) :
    Meets (Builtin.«tuple.__mul__» ⟨[.ref l, .int x u], []⟩) (fun _ R s => s.heap.get? l = some { cls := .type "tuple", dict := dd, data := .seq items n, slots := sl } ∧
      R (.ok (.ret (Value.ref s.heap.objs.size))) { s with heap := s.heap.push { cls := Value.type "tuple", data := Data.seq #[] }, toks := s.toks }) :=
  .of_wp fun prog w A R s h => by
    obtain ⟨hp, g, d, tk, os⟩ := s
    obtain ⟨hl, h⟩ := h
    have f1 := AutoSeq1.idx_int
    wp_walk using AutoSeq1.wpAny_loadPart' hl
    repeat (first
      | (refine wpAny_ite_false (decide_eq_false (by rw [c0]; exact Bool.false_ne_true)) ?_; wp_walk using AutoSeq1.wpAny_loadPart' hl)
      | (refine wpAny_ite_false (decide_eq_false (by rw [c1]; exact Bool.false_ne_true)) ?_; wp_walk using AutoSeq1.wpAny_loadPart' hl)
      | (refine wpAny_ite_true (decide_eq_true c2) ?_; wp_walk using AutoSeq1.wpAny_loadPart' hl))
    exact ⟨_, rfl, h⟩
theorem op_repT1 : OpR X (binaryOp .Mult) (fun x y H Q => ∃ l k xs, x = .ref l ∧ y = .int k ∧ (xs = [] ∨ k = 1) ∧ -1000 ≤ k ∧ k ≤ 1000 ∧ SqT X.K H l xs ∧ Q x H) := by
  intro pins s σ H x y v u Q I rx ry h
  obtain ⟨l, k, xs, rfl, rfl, hc, k1, k2, hT, q⟩ := h
  cases rx
  obtain ⟨t, rfl⟩ := ry
  obtain ⟨its, r, ⟨⟨cls, dd, data, sl⟩, ho, hcl, n, hd⟩, hs⟩ := I.tuple hT
  simp only at hcl hd
  subst hcl hd
  have hle : its.length = xs.length := r.length.symm
  have c0 : (decide (k < -(2 ^ 63)) || decide (k ≥ 2 ^ 63)) = false := by
    rw [decide_eq_false (by omega), decide_eq_false (by omega)] <;> rfl
  have c1 : (its.toArray.isEmpty || k == 1) = true := by
    rcases hc with rfl | rfl
    · rw [List.eq_nil_of_length_eq_zero hle]; rfl
    · simp
  refine wpAny_binaryOp_repeat_ref (T := "tuple") (U := "int") (by decide) ⟨_, ho, rfl⟩ (fun s' => typeIs_int s' k t) noFill_tuple_mul F.fills_int_mul F.slot_int_rmul repeat_tuple F.slot_int_index.lookup
    (call_meets F.slot_int_rmul (typeIs_int s k t) F.entry_int_rmul (F.args_int_rmul_2 _ _) (int_rmul_tuple k t l its.toArray n dd sl)
      ⟨ho, rfl, ⟨_, ho, rfl⟩, call_meets F.slot_tuple_mul ⟨_, ho, rfl⟩ F.entry_tuple_mul (F.args_tuple_mul_2 _ _) (tuple_mul1 l its.toArray n dd sl k t c0 c1) ⟨ho, ?_⟩⟩)
  exact ⟨.ref l, H, I, rfl, q⟩
theorem op_repT0 : OpR X (binaryOp .Mult) (fun x y H Q => ∃ l k xs, x = .ref l ∧ y = .int k ∧ xs ≠ [] ∧ -1000 ≤ k ∧ k ≤ 0 ∧ SqT X.K H l xs ∧ ∀ p, H p = none → Q (.ref p) (upd H p (.tup []))) := by
  intro pins s σ H x y v u Q I rx ry h
  obtain ⟨l, k, xs, rfl, rfl, hne, k1, k2, hT, q⟩ := h
  cases rx
  obtain ⟨t, rfl⟩ := ry
  obtain ⟨its, r, ⟨⟨cls, dd, data, sl⟩, ho, hcl, n, hd⟩, hs⟩ := I.tuple hT
  simp only at hcl hd
  subst hcl hd
  have hle : its.length = xs.length := r.length.symm
  have hn : its ≠ [] := fun e => hne (by rw [e] at hle; exact List.eq_nil_of_length_eq_zero hle.symm)
  have hi : its.toArray.isEmpty = false := by
    cases its with
    | nil => exact absurd rfl hn
    | cons a b => rfl
  have c0 : (decide (k < -(2 ^ 63)) || decide (k ≥ 2 ^ 63)) = false := by
    rw [decide_eq_false (by omega), decide_eq_false (by omega)] <;> rfl
  have c1 : (its.toArray.isEmpty || k == 1) = false := by
    rw [hi, Bool.false_or]
    exact beq_eq_false_iff_ne.mpr (by omega)
  have c2 : (decide (k ≤ 0) || its.toArray.isEmpty) = true := by rw [decide_eq_true k2]; rfl
  refine wpAny_binaryOp_repeat_ref (T := "tuple") (U := "int") (by decide) ⟨_, ho, rfl⟩ (fun s' => typeIs_int s' k t) noFill_tuple_mul F.fills_int_mul F.slot_int_rmul repeat_tuple F.slot_int_index.lookup
    (call_meets F.slot_int_rmul (typeIs_int s k t) F.entry_int_rmul (F.args_int_rmul_2 _ _) (int_rmul_tuple k t l its.toArray n dd sl)
      ⟨ho, rfl, ⟨_, ho, rfl⟩, call_meets F.slot_tuple_mul ⟨_, ho, rfl⟩ F.entry_tuple_mul (F.args_tuple_mul_2 _ _) (tuple_mul0 l its.toArray n dd sl k t c0 c1 c2) ⟨ho, ?_⟩⟩)
  refine ⟨.ref s.heap.objs.size, _, I.laid (t' := s.toks) (o := .tup []) (fun b ob q => Heap.get?_push_of_some _ q) (Nat.le_refl _) ?_, rfl, q _ (I.hok.fresh (Nat.le_refl _))⟩
  exact ⟨by decide, [], .nil, IsTup.new _ _⟩

def opOf : BOp → Operator
  | .add => .Add | .sub => .Sub | .mul => .Mult | .fdiv => .FloorDiv | .mod => .Mod | .pow => .Pow | .bor => .BitOr | .band => .BitAnd | .shl => .LShift | .shr => .RShift
theorem band_nn {i j : Int} (hi : 0 ≤ i) (hj : 0 ≤ j) : Builtin.bitAnd i j = ((i.toNat &&& j.toNat : Nat) : Int) := by
  unfold Builtin.bitAnd
  rw [decide_eq_true hi, decide_eq_true hj]
theorem bor_nn {i j : Int} (hi : 0 ≤ i) (hj : 0 ≤ j) : Builtin.bitOr i j = ((i.toNat ||| j.toNat : Nat) : Int) := by
  unfold Builtin.bitOr Builtin.bitAnd
  have e1 : ¬ (0 ≤ Builtin.bitNot i) := by unfold Builtin.bitNot; omega
  have e2 : ¬ (0 ≤ Builtin.bitNot j) := by unfold Builtin.bitNot; omega
  have e3 : ∀ k : Int, Builtin.bitNot (Builtin.bitNot k) = k := fun k => by unfold Builtin.bitNot; omega
  rw [decide_eq_false e1, decide_eq_false e2]
  show Builtin.bitNot (Builtin.bitNot _) = _
  rw [e3, e3, e3]
theorem toStr_len (s : List Nat) : (toStr s).length = s.length := by simp [toStr, Str.length]
theorem toStr_app (s t : List Nat) : toStr s ++ toStr t = toStr (s ++ t) := by
  show Str.append _ _ = _
  simp [toStr, Str.append]
def rBin (K : PySem.W.Frag) (op : BOp) : R2 := fun x y H Q => ∃ p dx dy R, p.H = H ∧ An K p dx x ∧ An K p dy y ∧ bin op dx dy R ∧ ∀ d p' v, R d → Ext p p' → VN K p p' d v → Q v p'.H
theorem op_bin (op : BOp) : OpR X (binaryOp (opOf op)) (rBin X.K op) := by
  intro pins s σ H x y v u Q I rx ry h
  obtain ⟨p, dx, dy, R, rfl, ax, ay, hb, q⟩ := h
  unfold bin at hb
  split at hb
  · obtain rfl : x = .int _ := ax
    obtain rfl : y = .int _ := ay
    exact op_add pins s σ _ _ _ v u Q I rx ry ⟨_, _, rfl, rfl, q _ p _ hb .refl rfl⟩
  · obtain rfl : x = .str _ := ax
    obtain rfl : y = .str _ := ay
    refine op_add_str pins s σ _ _ _ v u Q I rx ry ⟨_, _, rfl, rfl, ?_, ?_⟩
    · rw [toStr_len, toStr_len]; exact hb.1
    · rw [toStr_app]; exact q _ p _ hb.2 .refl rfl
  · obtain ⟨a, vs, rfl, ra, fa⟩ := ax
    obtain ⟨b, ws, rfl, rb, fb⟩ := ay
    refine op_catR pins s σ _ _ _ v u Q I rx ry ⟨a, b, vs, ws, rfl, rfl, ra, rb, ?_, fun c hc => ?_⟩
    · rw [← fa.length, ← fb.length]; exact hb.1
    · have n := new_lst hc (fa.append fb)
      exact q _ _ _ hb.2 n.1 n.2
  · obtain ⟨a, vs, rfl, ra, fa⟩ := ax
    obtain ⟨b, ws, rfl, rb, fb⟩ := ay
    refine op_catA pins s σ _ _ _ v u Q I rx ry ⟨a, b, vs, ws, rfl, rfl, ra.elim .inr fun z => .inl z.2, rb.elim .inr fun z => .inl z.2, ?_, fun e => ?_, fun _ e => ?_, fun _ _ c hc => ?_⟩
    · rw [← fa.length, ← fb.length]; exact hb.1
    · subst e
      have e1 := fa.nil
      subst e1
      exact q _ p _ hb.2 .refl ⟨b, ws, rfl, rb, fb⟩
    · subst e
      have e1 := fb.nil
      subst e1
      have h2 := hb.2
      rw [List.append_nil] at h2
      exact q _ p _ h2 .refl ⟨a, vs, rfl, ra, fa⟩
    · have n := new_tup hc (fa.append fb)
      exact q _ _ _ hb.2 n.1 n.2
  · obtain rfl : x = .int _ := ax
    obtain rfl : y = .int _ := ay
    exact op_sub pins s σ _ _ _ v u Q I rx ry ⟨_, _, rfl, rfl, q _ p _ hb .refl rfl⟩
  · obtain rfl : x = .int _ := ax
    obtain rfl : y = .int _ := ay
    exact op_mul pins s σ _ _ _ v u Q I rx ry ⟨_, _, rfl, rfl, hb.1, q _ p _ hb.2 .refl rfl⟩
  · obtain ⟨a, vs, rfl, ra, fa⟩ := ax
    obtain rfl : y = .int _ := ay
    rename_i j
    refine op_repR pins s σ _ _ _ v u Q I rx ry ⟨a, j, vs, rfl, rfl, ra, by have := hb.1.1; omega, by have := hb.1.2; omega, ?_, fun c hc => ?_⟩
    · rw [← fa.length]; exact hb.2.1
    · have n := new_lst hc (fa.rep j.toNat)
      exact q _ _ _ hb.2.2 n.1 n.2
  · obtain ⟨a, vs, rfl, ra, fa⟩ := ax
    obtain rfl : y = .int _ := ay
    rename_i j
    obtain ⟨⟨h1, h2, hl⟩, hq⟩ := hb
    have sq : SqT X.K p.H a vs := ra.elim .inr fun z => .inl z.2
    by_cases hj : vs = [] ∨ j = 1
    · refine op_repT1 pins s σ _ _ _ v u Q I rx ry ⟨a, j, vs, rfl, rfl, hj, h1, h2, sq, ?_⟩
      refine q _ p _ hq .refl ⟨a, vs, rfl, ra, ?_⟩
      rcases hj with rfl | rfl
      · have e := fa.nil
        subst e
        rw [show (List.replicate j.toNat ([] : List D)).flatten = [] by simp]
        exact fa
      · rw [show (List.replicate (1 : Int).toNat _).flatten = _ from List.append_nil _]
        exact fa
    · have hv : vs ≠ [] := fun e => hj (.inl e)
      by_cases hk : j ≤ 0
      · refine op_repT0 pins s σ _ _ _ v u Q I rx ry ⟨a, j, vs, rfl, rfl, hv, h1, hk, sq, fun c hc => ?_⟩
        have n := new_tup hc (fa.rep 0)
        rw [show j.toNat = 0 by omega] at hq
        exact q _ _ _ hq n.1 n.2
      · refine op_repT pins s σ _ _ _ v u Q I rx ry ⟨a, j, vs, rfl, rfl, sq, hv, by omega, h2, by rw [← fa.length]; exact hl, fun c hc => ?_⟩
        have n := new_tup hc (fa.rep j.toNat)
        exact q _ _ _ hq n.1 n.2
  · obtain rfl : x = .int _ := ax
    obtain rfl : y = .int _ := ay
    exact op_fdivN pins s σ _ _ _ v u Q I rx ry ⟨_, _, rfl, rfl, hb.1, q _ p _ hb.2 .refl rfl⟩
  · obtain rfl : x = .int _ := ax
    obtain rfl : y = .int _ := ay
    exact op_modN pins s σ _ _ _ v u Q I rx ry ⟨_, _, rfl, rfl, hb.1, q _ p _ hb.2 .refl rfl⟩
  · obtain rfl : x = .int _ := ax
    obtain rfl : y = .int _ := ay
    exact op_pow pins s σ _ _ _ v u Q I rx ry ⟨_, _, rfl, rfl, hb.1, q _ p _ hb.2 .refl rfl⟩
  · obtain rfl : x = .int _ := ax
    obtain rfl : y = .int _ := ay
    exact op_or pins s σ _ _ _ v u Q I rx ry ⟨_, _, rfl, rfl, by show Q (V.int (Builtin.bitOr _ _)) p.H; rw [bor_nn hb.1.1 hb.1.2]; exact q _ p _ hb.2 .refl rfl⟩
  · obtain rfl : x = .int _ := ax
    obtain rfl : y = .int _ := ay
    exact op_and pins s σ _ _ _ v u Q I rx ry ⟨_, _, rfl, rfl, by show Q (V.int (Builtin.bitAnd _ _)) p.H; rw [band_nn hb.1.1 hb.1.2]; exact q _ p _ hb.2 .refl rfl⟩
  · obtain rfl : x = .int _ := ax
    obtain rfl : y = .int _ := ay
    exact op_shl pins s σ _ _ _ v u Q I rx ry ⟨_, _, rfl, rfl, hb.1, q _ p _ hb.2 .refl rfl⟩
  · obtain rfl : x = .int _ := ax
    obtain rfl : y = .int _ := ay
    exact op_shr pins s σ _ _ _ v u Q I rx ry ⟨_, _, rfl, rfl, hb.1, q _ p _ hb.2 .refl rfl⟩
  · exact hb.elim
end
end Pv

set_option autoImplicit false
set_option linter.all false
set_option Elab.async false
set_option maxRecDepth 100000
namespace Pv
open PySem PySem.Spec PyProof.Rows L2
section
variable {K : PySem.W.Frag} {p : Ph}
/-! ### data as a whole -/
mutual
theorem canLay_of : ∀ (d : D) (n : Nat), plain d n = true → (toPy d).canLay0 = true ∧ (toPy d).depth ≤ n
  | .non, n, h => ⟨rfl, Nat.zero_le _⟩
  | .bl _, n, h => ⟨rfl, Nat.zero_le _⟩
  | .int _, n, h => ⟨rfl, Nat.zero_le _⟩
  | .str s, n, h => ⟨by
      show (toStr s).cps.all (· < 0x110000) = true
      have h : s.all (· < 1114112) = true := h
      simpa [toStr] using h, Nat.zero_le _⟩
  | .tup l, 0, h => nomatch h
  | .tup l, n + 1, h => by
    obtain ⟨a, b⟩ := canLayL_of l n h
    exact ⟨a, Nat.succ_le_succ b⟩
  | .lst l, 0, h => nomatch h
  | .lst l, n + 1, h => by
    obtain ⟨a, b⟩ := canLayL_of l n h
    exact ⟨a, Nat.succ_le_succ b⟩
  | .dic _, n, h => nomatch h
  | .ref _, n, h => nomatch h
  | .fn _, n, h => nomatch h
  | .rep _, n, h => nomatch h
theorem canLayL_of : ∀ (l : List D) (n : Nat), plainL l n = true → PyData.canLayAll0 (toPyL l) = true ∧ PyData.depthAll (toPyL l) ≤ n
  | [], n, h => ⟨rfl, Nat.zero_le _⟩
  | d :: r, n, h => by
    have h := Bool.and_eq_true_iff.mp (show (plain d n && plainL r n) = true from h)
    obtain ⟨a, b⟩ := canLay_of d n h.1
    obtain ⟨a', b'⟩ := canLayL_of r n h.2
    refine ⟨?_, ?_⟩
    · show ((toPy d).canLay0 && PyData.canLayAll0 (toPyL r)) = true
      rw [a, a']; rfl
    · show max (toPy d).depth (PyData.depthAll (toPyL r)) ≤ n
      omega
end
theorem shaped_of {d : D} (h : plain d 60 = true) : SeqAt.shaped (toPy d) = true := by
  obtain ⟨a, b⟩ := canLay_of d 60 h
  show ((toPy d).canLay0 && decide ((toPy d).depth ≤ 64)) = true
  rw [a, decide_eq_true (by omega)]; rfl
theorem shapedL_of {l : List D} (h : plainL l 60 = true) : SeqAt.shaped (.list (toPyL l)) = true ∧ SeqAt.shaped (.tuple (toPyL l)) = true := by
  obtain ⟨a, b⟩ := canLayL_of l 60 h
  constructor
  · show (PyData.canLayAll0 (toPyL l) && decide (PyData.depthAll (toPyL l) + 1 ≤ 64)) = true
    rw [a, decide_eq_true (by omega)]; rfl
  · show (PyData.canLayAll0 (toPyL l) && decide (PyData.depthAll (toPyL l) + 1 ≤ 64)) = true
    rw [a, decide_eq_true (by omega)]; rfl
theorem toStr_eq {a b : List Nat} : (toStr a == toStr b) = (a == b) := by
  by_cases h : a = b
  · subst h; simp
  · have h2 : ¬ toStr a = toStr b := fun e => h (by
      have := congrArg (fun x : Str => x.cps.toList) e
      simpa [toStr] using this)
    rw [beq_eq_false_iff_ne.mpr h, beq_eq_false_iff_ne.mpr h2]
mutual
theorem eqv_of : ∀ (a b : D) (n m : Nat), plain a n = true → plain b m = true → PyData.eqv (toPy a) (toPy b) = pyEq a b
  | .tup l, .tup r, n + 1, m + 1, h, h' => eqvL_of l r n m h h'
  | .lst l, .lst r, n + 1, m + 1, h, h' => eqvL_of l r n m h h'
  | .tup l, b, 0, m, h, h' => nomatch h
  | .lst l, b, 0, m, h, h' => nomatch h
  | a, .tup l, n, 0, h, h' => nomatch h'
  | a, .lst l, n, 0, h, h' => nomatch h'
  | .dic _, _, _, _, h, _ => nomatch h
  | .ref _, _, _, _, h, _ => nomatch h
  | .fn _, _, _, _, h, _ => nomatch h
  | .rep _, _, _, _, h, _ => nomatch h
  | _, .dic _, _, _, _, h => nomatch h
  | _, .ref _, _, _, _, h => nomatch h
  | _, .fn _, _, _, _, h => nomatch h
  | _, .rep _, _, _, _, h => nomatch h
  | .non, .non, _, _, _, _ => rfl
  | .non, .bl _, _, _, _, _ => rfl
  | .non, .int _, _, _, _, _ => rfl
  | .non, .str _, _, _, _, _ => rfl
  | .non, .tup _, _, _ + 1, _, _ => rfl
  | .non, .lst _, _, _ + 1, _, _ => rfl
  | .bl _, .non, _, _, _, _ => rfl
  | .bl _, .bl _, _, _, _, _ => rfl
  | .bl _, .int _, _, _, _, _ => rfl
  | .bl _, .str _, _, _, _, _ => rfl
  | .bl _, .tup _, _, _ + 1, _, _ => rfl
  | .bl _, .lst _, _, _ + 1, _, _ => rfl
  | .int _, .non, _, _, _, _ => rfl
  | .int _, .bl _, _, _, _, _ => rfl
  | .int _, .int _, _, _, _, _ => rfl
  | .int _, .str _, _, _, _, _ => rfl
  | .int _, .tup _, _, _ + 1, _, _ => rfl
  | .int _, .lst _, _, _ + 1, _, _ => rfl
  | .str _, .non, _, _, _, _ => rfl
  | .str _, .bl _, _, _, _, _ => rfl
  | .str _, .int _, _, _, _, _ => rfl
  | .str _, .str _, _, _, _, _ => toStr_eq
  | .str _, .tup _, _, _ + 1, _, _ => rfl
  | .str _, .lst _, _, _ + 1, _, _ => rfl
  | .tup _, .non, _ + 1, _, _, _ => rfl
  | .tup _, .bl _, _ + 1, _, _, _ => rfl
  | .tup _, .int _, _ + 1, _, _, _ => rfl
  | .tup _, .str _, _ + 1, _, _, _ => rfl
  | .tup _, .lst _, _ + 1, _ + 1, _, _ => rfl
  | .lst _, .non, _ + 1, _, _, _ => rfl
  | .lst _, .bl _, _ + 1, _, _, _ => rfl
  | .lst _, .int _, _ + 1, _, _, _ => rfl
  | .lst _, .str _, _ + 1, _, _, _ => rfl
  | .lst _, .tup _, _ + 1, _ + 1, _, _ => rfl
theorem eqvL_of : ∀ (a b : List D) (n m : Nat), plainL a n = true → plainL b m = true → PyData.eqvAll (toPyL a) (toPyL b) = pyEqL a b
  | [], [], n, m, h, h' => rfl
  | [], _ :: _, n, m, h, h' => rfl
  | _ :: _, [], n, m, h, h' => rfl
  | d :: r, e :: s, n, m, h, h' => by
    have h := Bool.and_eq_true_iff.mp (show (plain d n && plainL r n) = true from h)
    have h' := Bool.and_eq_true_iff.mp (show (plain e m && plainL s m) = true from h')
    show (PyData.eqv (toPy d) (toPy e) && PyData.eqvAll (toPyL r) (toPyL s)) = (pyEq d e && pyEqL r s)
    rw [eqv_of d e n m h.1 h'.1, eqvL_of r s n m h.2 h'.2]
end
mutual
theorem dp_of : ∀ (d : D) (v : V) (n : Nat), Fz K p d v → plain d n = true → Dp K p.H v (toPy d)
  | .non, v, n, h, _ => by rw [show v = .non from h]; exact .non
  | .bl b, v, n, h, _ => by rw [show v = .bl b from h]; exact .bl b
  | .int b, v, n, h, _ => by rw [show v = .int b from h]; exact .int b
  | .str s, v, n, h, _ => by rw [show v = .str (toStr s) from h]; exact .str _
  | .tup l, v, n + 1, h, hp => by
    obtain ⟨a, vs, rfl, z, f⟩ := h
    exact .tup (z.elim .inr fun z => .inl z.2) (dpL_of l vs n f hp)
  | .lst l, v, n + 1, h, hp => by
    obtain ⟨a, vs, rfl, z, f⟩ := h
    exact .lst (.inl (.inl z.2)) (dpL_of l vs n f hp)
  | .tup l, v, 0, h, hp => nomatch hp
  | .lst l, v, 0, h, hp => nomatch hp
  | .dic _, v, n, h, hp => nomatch hp
  | .ref _, v, n, h, hp => nomatch hp
  | .fn _, v, n, h, hp => nomatch hp
  | .rep _, v, n, h, hp => nomatch hp
theorem dpL_of : ∀ (l : List D) (vs : List V) (n : Nat), FzL K p l vs → plainL l n = true → DpAll K p.H vs (toPyL l)
  | [], vs, n, h, _ => by rw [show vs = [] from h]; exact .nil
  | d :: r, vs, n, h, hp => by
    obtain ⟨v, ws, rfl, z, t⟩ := h
    have hp := Bool.and_eq_true_iff.mp (show (plain d n && plainL r n) = true from hp)
    exact .cons (dp_of d v n z hp.1) (dpL_of r ws n t hp.2)
end
theorem dpA_of : ∀ {d : D} {v : V}, An K p d v → plain d 60 = true → Dp K p.H v (toPy d)
  | .lst l, v, h, hp => by
    obtain ⟨a, vs, rfl, z, f⟩ := h
    exact .lst (.inl z) (dpL_of l vs 59 f hp)
  | .non, v, h, hp => dp_of .non v 60 h hp
  | .bl b, v, h, hp => dp_of (.bl b) v 60 h hp
  | .int b, v, h, hp => dp_of (.int b) v 60 h hp
  | .str b, v, h, hp => dp_of (.str b) v 60 h hp
  | .tup b, v, h, hp => dp_of (.tup b) v 60 h hp
  | .dic _, v, h, hp => nomatch hp
  | .ref _, v, h, hp => nomatch hp
  | .fn _, v, h, hp => nomatch hp
  | .rep _, v, h, hp => nomatch hp
theorem any_of (x : D) (hx : plain x 60 = true) : ∀ (l : List D) (n : Nat), plainL l n = true → ((toPyL l).any fun z => PyData.eqv z (toPy x)) = l.any (pyEq · x)
  | [], n, h => rfl
  | d :: r, n, h => by
    have h := Bool.and_eq_true_iff.mp (show (plain d n && plainL r n) = true from h)
    show (PyData.eqv (toPy d) (toPy x) || (toPyL r).any fun z => PyData.eqv z (toPy x)) = (pyEq d x || r.any (pyEq · x))
    rw [eqv_of d x n 60 h.1 hx, any_of x hx r n h.2]
/-- the order of texts -/
theorem leS_lt : ∀ a b : List Nat, decide (a < b) = !leS b a
  | [], [] => by simp [leS]
  | [], _ :: _ => by simp [leS]
  | _ :: _, [] => by simp [leS]
  | a :: r, b :: s => by
    have ih := leS_lt r s
    unfold leS
    by_cases h : b < a
    · rw [if_pos h]
      have : ¬ (a :: r < b :: s) := fun q => by
        rcases List.cons_lt_cons_iff.mp q with q | q
        · omega
        · omega
      rw [decide_eq_false this]; rfl
    · rw [if_neg h]
      by_cases h2 : a < b
      · rw [if_pos h2, decide_eq_true (List.cons_lt_cons_iff.mpr (.inl h2))]; rfl
      · rw [if_neg h2, ← ih]
        have e : a = b := by omega
        subst e
        congr 1
        exact propext ⟨fun q => (List.cons_lt_cons_iff.mp q).elim (fun z => absurd z h) (·.2), fun q => List.cons_lt_cons_iff.mpr (.inr ⟨rfl, q⟩)⟩
end
section
variable {K : PySem.W.Frag} {p : Ph}
/-! ### what a dict holds -/
theorem keyV_eq {a b : D} {q r : Key} (ha : keyV a = some q) (hb : keyV b = some r) : pyEq a b = decide (q = r) := by
  cases a <;> cases b <;> simp only [keyV, Option.some.injEq, reduceCtorEq] at ha hb <;> subst ha <;> subst hb
  · exact (key_ll _ _).symm
  · exact (key_lr _ _).symm
  · exact (key_rl _ _).symm
  · rw [key_rr]
    show (_ == _) = _
    rw [← toStr_eq, Bool.beq_eq_decide_eq]
theorem isKey_of {d : D} (h : isKey d = true) : ∃ q, keyV d = some q := by
  cases d <;> first | exact ⟨_, rfl⟩ | cases h
theorem key_an {d : D} {q : Key} {v : V} (hk : keyV d = some q) (h : An K p d v) : v = kV q := by
  cases d <;> simp only [keyV, Option.some.injEq, reduceCtorEq] at hk <;> subst hk
  · exact h
  · exact h
theorem FzKV.find : ∀ {kvs : List (D × D)} {ps : List (Key × V)} {k : D} {q : Key}, FzKV K p kvs ps → keyV k = some q →
    (∀ d, dget kvs k = some d → ∃ v, valV ps q = some v ∧ Fz K p d v) ∧ (dget kvs k = none → valV ps q = none)
  | [], ps, k, q, h, hk => by
    rw [show ps = [] from h]
    exact ⟨fun d e => (nomatch e), fun _ => rfl⟩
  | (a, d) :: r, ps, k, q, h, hk => by
    obtain ⟨q', v, qs, rfl, ka, z, t⟩ := h
    have ih := FzKV.find t hk
    have e := keyV_eq ka hk
    unfold dget valV
    rw [List.find?_cons]
    by_cases hq : q' = q
    · rw [e, decide_eq_true hq, if_pos rfl]
      exact ⟨fun x ex => ⟨v, rfl, by cases ex; exact z⟩, fun q => nomatch q⟩
    · rw [e, decide_eq_false hq]
      exact ih
theorem dget_isSome {kvs : List (D × D)} {ps : List (Key × V)} {k : D} {q : Key} (h : FzKV K p kvs ps) (hk : keyV k = some q) : (valV ps q).isSome = (dget kvs k).isSome := by
  obtain ⟨a, b⟩ := h.find hk
  cases e : dget kvs k with
  | none => rw [b e]; rfl
  | some d => obtain ⟨v, e2, _⟩ := a d e; rw [e2]; rfl
end
section
variable {X : Cx} {N : Hp} {z : Ev} {pos : Pos}
theorem isNon_of {K : PySem.W.Frag} {p : Ph} {d : D} {x : V} (ax : An K p d x) : decide (x = .non) = isNon d := by
  cases d with
  | non => rw [show x = .non from ax]; rfl
  | lst l => obtain ⟨a, vs, rfl, _⟩ := ax; rfl
  | dic l => obtain ⟨a, vs, rfl, _⟩ := ax; rfl
  | tup l => obtain ⟨a, vs, rfl, _⟩ := ax; rfl
  | ref n => obtain ⟨a, _, rfl⟩ := ax; rfl
  | fn x => exact ax.elim
  | bl b => rw [show x = .bl b from ax]; rfl
  | int b => rw [show x = .int b from ax]; rfl
  | str b => rw [show x = .str _ from ax]; rfl
  | rep b => rw [show x = .str _ from ax]; rfl
def copOf : COp → CmpOp
  | .lt => .Lt | .le => .LtE | .gt => .Gt | .ge => .GtE | .eq => .Eq | .ne => .NotEq | .mem => .In | .notMem => .NotIn | .isN => .Is | .notN => .IsNot
def rCmp (K : PySem.W.Frag) (op : COp) : R2 := fun x y H Q => ∃ p dx dy R, p.H = H ∧ An K p dx x ∧ An K p dy y ∧ cmpP op dx dy R ∧ ∀ b, R b → Q (.bl b) p.H
theorem op_mem (neg : Bool) (hu : X.A.units + 65 < cLine) : OpR X (compareOp (if neg then .NotIn else .In)) (fun x y H Q => ∃ p dx dy R, p.H = H ∧ An X.K p dx x ∧ An X.K p dy y ∧ memP dx dy R ∧ ∀ b, R b → Q (.bl (if neg then !b else b)) p.H) := by
  intro pins s σ H x y v u Q I rx ry h
  obtain ⟨p, dx, dy, R, rfl, ax, ay, hb, q⟩ := h
  unfold memP at hb
  split at hb
  · rename_i l
    obtain ⟨px, pl, hb⟩ := hb
    have dl : Dp X.K p.H y (.list (toPyL l)) := by
      obtain ⟨a, vs, rfl, z, f⟩ := ay
      exact .lst (.inl z) (dpL_of l vs 60 f pl)
    cases neg with
    | false => exact op_inD hu pins s σ _ x y v u Q I rx ry ⟨_, _, dpA_of ax px, dl, shaped_of px, (shapedL_of pl).1, by rw [any_of dx px l 60 pl]; exact q _ hb⟩
    | true => exact op_notInD hu pins s σ _ x y v u Q I rx ry ⟨_, _, dpA_of ax px, dl, shaped_of px, (shapedL_of pl).1, by rw [any_of dx px l 60 pl]; exact q _ hb⟩
  · rename_i l
    obtain ⟨px, pl, hb⟩ := hb
    have dl : Dp X.K p.H y (.tuple (toPyL l)) := by
      obtain ⟨a, vs, rfl, z, f⟩ := ay
      exact .tup (z.elim .inr fun z => .inl z.2) (dpL_of l vs 60 f pl)
    obtain ⟨as, r1⟩ := Dp.reads I _ x v (dpA_of ax px) rx
    obtain ⟨bs, r2⟩ := Dp.reads I _ y u dl ry
    have se := shaped_of px
    have sl := (shapedL_of pl).1
    cases neg with
    | false => exact SeqAt.in_tuple_reads r2 r1 (canLayL_of l 60 pl).1 (SeqAt.canLay_of_shaped se) (room_in_shaped se hu) ⟨.bl _, p.H, I, rfl, by rw [any_of dx px l 60 pl]; exact q _ hb⟩
    | true => exact SeqAt.notIn_tuple_reads r2 r1 (canLayL_of l 60 pl).1 (SeqAt.canLay_of_shaped se) (room_in_shaped se hu) ⟨.bl _, p.H, I, rfl, by rw [any_of dx px l 60 pl]; exact q _ hb⟩
  · rename_i kvs
    obtain ⟨kx, hb⟩ := hb
    obtain ⟨a, ps, rfl, z, f⟩ := ay
    obtain ⟨k, hk⟩ := isKey_of kx
    have ev := key_an hk ax
    obtain rfl : u = Value.ref a := ry
    have g : DGet p.H a x (valV ps k) := .inl ⟨ps, k, z, ev, rfl⟩
    cases neg with
    | false => exact d_in (by omega) I g rx fun s3 I3 => ⟨.bl _, p.H, I3, rfl, by rw [dget_isSome f hk]; exact q _ hb⟩
    | true => exact d_notIn (by omega) I g rx fun s3 I3 => ⟨.bl _, p.H, I3, rfl, by rw [dget_isSome f hk]; exact q _ hb⟩
  · rename_i t
    obtain ⟨c, rfl, hb⟩ := hb
    obtain rfl : x = .str (toStr [c]) := ax
    obtain rfl : y = .str (toStr t) := ay
    have e : decide (c ∈ (toStr t).cps.toList) = t.contains c := by
      simp [toStr]
    cases neg with
    | false => exact op_in_sign pins s σ _ _ _ v u Q I rx ry ⟨c, toStr t, rfl, rfl, by rw [e]; exact q _ hb⟩
    | true => exact op_notIn_sign pins s σ _ _ _ v u Q I rx ry ⟨c, toStr t, rfl, rfl, by rw [e]; exact q _ hb⟩
  · exact hb.elim
theorem op_cmp (op : COp) (hu : X.A.units + 65 < cLine) : OpR X (compareOp (copOf op)) (rCmp X.K op) := by
  intro pins s σ H x y v u Q I rx ry h
  obtain ⟨p, dx, dy, R, rfl, ax, ay, hb, q⟩ := h
  unfold cmpP at hb
  split at hb
  · obtain rfl : x = .int _ := ax
    obtain rfl : y = .int _ := ay
    exact op_lt pins s σ _ _ _ v u Q I rx ry ⟨_, _, rfl, rfl, q _ hb⟩
  · obtain rfl : x = .int _ := ax
    obtain rfl : y = .int _ := ay
    exact op_le pins s σ _ _ _ v u Q I rx ry ⟨_, _, rfl, rfl, q _ hb⟩
  · obtain rfl : x = .int _ := ax
    obtain rfl : y = .int _ := ay
    exact op_gt pins s σ _ _ _ v u Q I rx ry ⟨_, _, rfl, rfl, q _ hb⟩
  · obtain rfl : x = .int _ := ax
    obtain rfl : y = .int _ := ay
    exact op_ge pins s σ _ _ _ v u Q I rx ry ⟨_, _, rfl, rfl, q _ hb⟩
  · obtain rfl : x = .str _ := ax
    obtain rfl : y = .str _ := ay
    exact op_lt_str pins s σ _ _ _ v u Q I rx ry ⟨_, _, rfl, rfl, by rw [show (decide _) = _ from leS_lt _ _]; exact q _ hb⟩
  · obtain rfl : x = .str _ := ax
    obtain rfl : y = .str _ := ay
    exact op_le_str pins s σ _ _ _ v u Q I rx ry ⟨_, _, rfl, rfl, by rw [show (decide _) = _ from leS_lt _ _, Bool.not_not]; exact q _ hb⟩
  · obtain rfl : x = .str _ := ax
    obtain rfl : y = .str _ := ay
    exact op_gt_str pins s σ _ _ _ v u Q I rx ry ⟨_, _, rfl, rfl, by rw [show (decide _) = _ from leS_lt _ _]; exact q _ hb⟩
  · obtain rfl : x = .str _ := ax
    obtain rfl : y = .str _ := ay
    exact op_ge_str pins s σ _ _ _ v u Q I rx ry ⟨_, _, rfl, rfl, by rw [show (decide _) = _ from leS_lt _ _, Bool.not_not]; exact q _ hb⟩
  · obtain ⟨rfl, hb⟩ := hb
    have e1 : x = .str _ := ax
    have e2 : y = .str _ := ay
    refine op_eq pins s σ _ _ _ v u Q I rx ry ⟨by rw [e1, e2]; rfl, ?_⟩
    rw [decide_eq_true (e1.trans e2.symm)]
    exact q _ hb
  · obtain ⟨rfl, hb⟩ := hb
    have e1 : x = .str _ := ax
    have e2 : y = .str _ := ay
    refine op_ne pins s σ _ _ _ v u Q I rx ry ⟨by rw [e1, e2]; rfl, ?_⟩
    rw [decide_eq_true (e1.trans e2.symm)]
    exact q _ hb
  · obtain ⟨px, py, hb⟩ := hb
    exact op_eqD (by omega) pins s σ _ _ _ v u Q I rx ry ⟨_, _, dpA_of ax px, dpA_of ay py, shaped_of px, shaped_of py, by rw [eqv_of _ _ 60 60 px py]; exact q _ hb⟩
  · obtain ⟨px, py, hb⟩ := hb
    exact op_neD (by omega) pins s σ _ _ _ v u Q I rx ry ⟨_, _, dpA_of ax px, dpA_of ay py, shaped_of px, shaped_of py, by rw [eqv_of _ _ 60 60 px py]; exact q _ hb⟩
  · exact op_mem false hu pins s σ _ _ _ v u Q I rx ry ⟨p, _, _, _, rfl, ax, ay, hb, fun b hb => q b hb⟩
  · exact op_mem true hu pins s σ _ _ _ v u Q I rx ry ⟨p, _, _, _, rfl, ax, ay, hb, fun b hb => q _ hb⟩
  · obtain rfl : y = .non := ay
    refine op_isN pins s σ _ _ _ v u Q I rx ry ⟨rfl, ?_⟩
    have e : decide (x = .non) = isNon _ := isNon_of ax
    rw [e]
    exact q _ hb
  · obtain rfl : y = .non := ay
    refine op_notN pins s σ _ _ _ v u Q I rx ry ⟨rfl, ?_⟩
    have e : decide (x = .non) = isNon _ := isNon_of ax
    rw [e]
    exact q _ hb
  · obtain rfl : x = .bl _ := ax
    obtain rfl : y = .bl _ := ay
    exact op_is_bl pins s σ _ _ _ v u Q I rx ry ⟨_, _, rfl, rfl, q _ hb⟩
  · exact hb.elim
end
end Pv

set_option autoImplicit false
set_option linter.all false
set_option Elab.async false
set_option maxRecDepth 100000
namespace Pv
open PySem PySem.Spec PyProof.Rows L2
section
variable {K : PySem.W.Frag} {N : Hp} {p p0 p1 p2 : Ph} {env env1 env2 : Env} {μ μ1 μ2 : Store} {σ : L2.St}
theorem toStr_inj {a b : List Nat} (h : toStr a = toStr b) : a = b := by
  have := congrArg (fun x : Str => x.cps.toList) h
  simpa [toStr] using this
theorem FsR.find {n : Nat} : ∀ {fs : List (List Nat × Nat × D)} {ps : List (Key × V)} {f : List Nat} {l : Nat} {d : D}, FsR K p n fs ps → (fs.find? fun q => q.1 == f).map (·.2) = some (l, d) →
    ∃ v, valV ps (.inr (toStr f)) = some v ∧ VF K p n f l d v
  | [], ps, f, l, d, h, e => by cases e
  | (g, l', d') :: r, ps, f, l, d, h, e => by
    obtain ⟨v, qs, rfl, z, t⟩ := h
    rw [List.find?_cons] at e
    unfold valV
    rw [List.find?_cons]
    by_cases hg : g = f
    · subst hg
      rw [show ((g, l', d').1 == g) = true from beq_self_eq_true g] at e
      cases e
      rw [show decide (((Sum.inr (toStr g), v) : Key × V).1 = Sum.inr (toStr g)) = true from decide_eq_true rfl]
      exact ⟨v, rfl, z⟩
    · rw [show ((g, l', d').1 == f) = false from beq_eq_false_iff_ne.mpr hg] at e
      rw [show decide (((Sum.inr (toStr g), v) : Key × V).1 = Sum.inr (toStr f)) = false from decide_eq_false fun q => hg (toStr_inj (Sum.inr.inj q))]
      exact FsR.find t e
theorem SR.field (sr : SR K N p env μ σ) {n : Nat} {o : Obj} {f : List Nat} {l : Nat} {d : D} (h : μ[n]? = some o) (e : getF o f = some (l, d)) :
    ∃ a ps v, p.θ[n]? = some a ∧ p.W a = some (.obj n) ∧ p.H a = some (.dK ps) ∧ FsR K p n o.fs ps ∧ valV ps (.inr (toStr f)) = some v ∧ VF K p n f l d v := by
  obtain ⟨a, h1, _, h2, _, ps, h3, h4⟩ := sr.obj n o h
  obtain ⟨v, e1, e2⟩ := h4.find e
  exact ⟨a, ps, v, h1, h2, h3, h4, e1, e2⟩
theorem VR.an {k : Kd} {d : D} {v : V} (sr : SR K N p env μ σ) (h : VR K p0 p env μ σ k d v) : An K p d v := by
  match k, h with
  | .fz, h => exact Fz.an h
  | .fresh, h => exact Ow.an h
  | .bor i, h =>
    obtain ⟨l, e, ev⟩ := h
    obtain ⟨w, ew, vs⟩ := sr.slot i _ _ e
    rw [ev] at ew; cases ew
    match l, vs with
    | 0, vs => exact Ow.an vs
    | _ + 1, vs => exact Ct.an vs
  | .borF n f, h =>
    obtain ⟨o, l, e, g, a, ps, e1, e2, e3⟩ := h
    obtain ⟨a', ps', v', e1', _, e2', _, e3', z⟩ := sr.field e g
    rw [e1] at e1'; cases e1'
    rw [e2] at e2'; cases e2'
    rw [e3] at e3'; cases e3'
    exact Ow.an z
/-- what was read, behind another reading -/
theorem VR.later {k : Kd} {d : D} {v : V} (h : VR K p0 p1 env1 μ1 σ k d v) (s : Step p1 p2) (sr : SR K N p2 env2 μ2 σ) (hk : kept k env1 env2 μ1 μ2) : An K p2 d v := by
  match k, h, hk with
  | .fz, h, _ => exact Fz.an (Fz.le s.le _ _ h)
  | .fresh, h, _ => exact Ow.an (Ow.le (N' := p0.H) s.le (fun a u w q => let ⟨x, y⟩ := s.keep a u q (by rw [w]; rfl); ⟨y.trans w, x⟩) (fun _ _ h => h) h)
  | .bor i, h, hk =>
    obtain ⟨l, e, ev⟩ := h
    have hk : env2[i]? = env1[i]? := hk
    exact VR.an (p0 := p0) (k := .bor i) sr ⟨l, hk.trans e, ev⟩
  | .borF n f, h, hk => exact hk.elim
theorem VN.vr {d : D} {v : V} (s : Step p0 p1) (h : VN K p1 p2 d v) : VR K p0 p2 env μ σ (kindOf d) d v := by
  have hd : ∀ a, p1.H a = none → p0.H a = none := fun a e => by
    cases q : p0.H a with
    | none => rfl
    | some u => exact absurd e (s.dom a (by rw [q]; exact fun z => nomatch z))
  cases d with
  | lst l => obtain ⟨a, vs, e, ⟨w, k, n⟩, f⟩ := h; exact ⟨a, vs, e, ⟨w, k, hd a n⟩, f⟩
  | dic l => obtain ⟨a, vs, e, ⟨w, k, n⟩, f⟩ := h; exact ⟨a, vs, e, ⟨w, k, hd a n⟩, f⟩
  | _ => exact h
/-- some things are owned no more -/
theorem Ct.loos (s : Loos p p1) : ∀ {d : D} {v : V}, Ct K p d v → Ct K p1 d v
  | .lst l, v, h => by
    obtain ⟨a, vs, e, ⟨w, h⟩, r⟩ := h
    refine ⟨a, vs, e, ⟨?_, by rw [s.hp]; exact h⟩, FzL.le s.le l vs r⟩
    rcases s.lo a with q | q
    · rw [q]; exact w
    · exact .inl q
  | .dic l, v, h => by
    obtain ⟨a, vs, e, ⟨w, h⟩, r⟩ := h
    refine ⟨a, vs, e, ⟨?_, by rw [s.hp]; exact h⟩, FzKV.le s.le l vs r⟩
    rcases s.lo a with q | q
    · rw [q]; exact w
    · exact .inl q
  | .non, v, h => h
  | .bl b, v, h => h
  | .int i, v, h => h
  | .str s, v, h => h
  | .tup l, v, h => Fz.le s.le _ _ h
  | .ref n, v, h => Fz.le (K := K) s.le (.ref n) v h
  | .rep d, v, h => h
  | .fn _, v, h => h
theorem loosA (a : Addr) : Loos p ⟨p.θ, updW p.W a none, p.H⟩ := ⟨rfl, rfl, fun b => by
  by_cases hb : b = a
  · exact .inr (by rw [hb]; exact updW_same)
  · exact .inl (updW_ne hb)⟩
/-- one thing is owned no more: no name and no object that is named holds it as its own -/
theorem SR.loos {a : Addr} {env' : Env} (sr : SR K N p env μ σ) (hl : env'.length = env.length)
    (hs : ∀ i l d, env'[i]? = some (some (l, d)) → ∃ v, σ[i]? = some (some v) ∧ VS K N ⟨p.θ, updW p.W a none, p.H⟩ i l d v) (ho : ∀ n, p.W a ≠ some (.obj n)) (hf : ∀ n f, p.W a ≠ some (.fld n f)) :
    SR K N ⟨p.θ, updW p.W a none, p.H⟩ env' μ σ := by
  have lo : Loos p ⟨p.θ, updW p.W a none, p.H⟩ := loosA a
  refine ⟨hl.trans sr.len, hs, sr.st, fun n o h => ?_, fun b o h => ?_, sr.dom⟩
  · obtain ⟨b, h1, h2, h3, h4, ps, h5, h6⟩ := sr.obj n o h
    have hb : b ≠ a := fun e => ho n (e ▸ h3)
    refine ⟨b, h1, h2, (updW_ne hb).trans h3, h4, ps, h5, ?_⟩
    have go : ∀ (fs : List (List Nat × Nat × D)) (ps : List (Key × V)), FsR K p n fs ps → FsR K ⟨p.θ, updW p.W a none, p.H⟩ n fs ps := by
      intro fs
      induction fs with
      | nil => exact fun ps h => h
      | cons x r ih =>
        obtain ⟨f, l, d⟩ := x
        intro ps h
        obtain ⟨v, qs, e1, z, t⟩ := h
        refine ⟨v, qs, e1, ?_, ih _ t⟩
        cases l with
        | zero => exact Fz.le lo.le _ _ z
        | succ l => exact Ow.le lo.le (fun c u w q => by
            have hc : c ≠ a := fun e => hf n f (e ▸ w)
            exact ⟨(updW_ne hc).trans w, q⟩) (fun _ _ h => h) z
    exact go _ _ h6
  · by_cases hb : b = a
    · subst hb
      have : updW p.W b none b = some o := h
      rw [updW_same] at this; cases this
    · exact sr.lab b o ((updW_ne hb).symm.trans h)
theorem VS.loos {a : Addr} {i l : Nat} {d : D} {v : V} (ne : p.W a ≠ some (.slot i)) (h : VS K N p i l d v) : VS K N ⟨p.θ, updW p.W a none, p.H⟩ i l d v := by
  have lo : Loos p ⟨p.θ, updW p.W a none, p.H⟩ := loosA a
  match l, h with
  | 0, h => exact Fz.le lo.le _ _ h
  | 1, h => exact Ow.le lo.le (fun c u w q => by
      have hc : c ≠ a := fun e => ne (e ▸ w)
      exact ⟨(updW_ne hc).trans w, q⟩) (fun _ _ h => h) h
  | _ + 2, h => exact Ct.loos lo h
theorem FzL.upW {a : Addr} {ds : List D} {vs : List V} (h : FzL K p ds vs) : FzL K ⟨p.θ, updW p.W a none, p.H⟩ ds vs :=
  FzL.le (loosA a).le _ _ h
theorem FzKV.upW {a : Addr} {ds : List (D × D)} {vs : List (Key × V)} (h : FzKV K p ds vs) : FzKV K ⟨p.θ, updW p.W a none, p.H⟩ ds vs :=
  FzKV.le (loosA a).le _ _ h
/-- a value is kept elsewhere from now on -/
theorem esc_ok {k : Kd} {d : D} {v : V} {R : Env → Prop} (sr : SR K N p env μ σ) (st : Step p0 p) (h : VR K p0 p env μ σ k d v) (he : esc k env R) :
    ∃ env' p', R env' ∧ p'.H = p.H ∧ Loos p p' ∧ SR K N p' env' μ σ ∧ Step p0 p' ∧ Fz K p' d v := by
  -- one address is set free
  have free : ∀ (a : Addr) (o : Own), p.W a = some o → (o = .tmp ∧ p0.H a = none ∨ ∃ i, o = .slot i) → Loos p ⟨p.θ, updW p.W a none, p.H⟩ ∧ Step p0 ⟨p.θ, updW p.W a none, p.H⟩ := fun a o w ho => by
    refine ⟨loosA a, st.th, fun b u q t => ?_, st.dom⟩
    · obtain ⟨x, y⟩ := st.keep b u q t
      by_cases hb : b = a
      · subst hb
        rcases ho with ⟨rfl, n⟩ | ⟨i, rfl⟩
        · rw [n] at q; cases q
        · rw [← y, w] at t; cases t
      · exact ⟨x, (updW_ne hb).trans y⟩
  match k, h, he with
  | .fz, h, he => exact ⟨env, p, he, rfl, .refl, sr, st, h⟩
  | .fresh, h, he =>
    have he : R env := he
    cases d with
    | lst l =>
      obtain ⟨a, vs, rfl, ⟨w, k, n⟩, f⟩ := h
      obtain ⟨lo, st'⟩ := free a _ w (.inl ⟨rfl, n⟩)
      refine ⟨env, ⟨p.θ, updW p.W a none, p.H⟩, he, rfl, lo, sr.loos rfl (fun i l d e => ?_) (fun n => by rw [w]; exact fun z => nomatch z) (fun n f => by rw [w]; exact fun z => nomatch z), st', a, vs, rfl, ⟨updW_same, k⟩, f.upW⟩
      obtain ⟨v, e1, z⟩ := sr.slot i l d e
      exact ⟨v, e1, z.loos (by rw [w]; exact fun z => nomatch z)⟩
    | dic l =>
      obtain ⟨a, vs, rfl, ⟨w, k, n⟩, f⟩ := h
      obtain ⟨lo, st'⟩ := free a _ w (.inl ⟨rfl, n⟩)
      refine ⟨env, ⟨p.θ, updW p.W a none, p.H⟩, he, rfl, lo, sr.loos rfl (fun i l d e => ?_) (fun n => by rw [w]; exact fun z => nomatch z) (fun n f => by rw [w]; exact fun z => nomatch z), st', a, vs, rfl, ⟨updW_same, .inl k⟩, f.upW⟩
      obtain ⟨v, e1, z⟩ := sr.slot i l d e
      exact ⟨v, e1, z.loos (by rw [w]; exact fun z => nomatch z)⟩
    | _ => exact ⟨env, p, he, rfl, .refl, sr, st, h⟩
  | .bor i, h, he =>
    obtain ⟨d', e', he⟩ := he
    obtain ⟨l, e, ev⟩ := h
    rw [e] at e'
    obtain ⟨rfl, rfl⟩ : l = 0 ∧ d = d' := by
      injection e' with e'
      injection e' with e'
      injection e' with e1 e2
      exact ⟨by omega, e2⟩
    obtain ⟨w', ew, vs⟩ := sr.slot i _ _ e
    rw [ev] at ew; cases ew
    have hi : i < env.length := (List.getElem?_eq_some_iff.mp e).1
    have go : ∀ (p' : Ph), Fz K p' d v → (∀ j l x w, j ≠ i → VS K N p j l x w → VS K N p' j l x w) → ∀ j l x, (env.set i (some (0, d)))[j]? = some (some (l, x)) → ∃ w, σ[j]? = some (some w) ∧ VS K N p' j l x w := fun p' hz hj j l x ex => by
      by_cases hji : j = i
      · subst hji
        rw [List.getElem?_set_self hi] at ex
        cases ex
        exact ⟨v, ev, hz⟩
      · rw [List.getElem?_set_ne (Ne.symm hji)] at ex
        obtain ⟨w, e1, z⟩ := sr.slot j l x ex
        exact ⟨w, e1, hj j l x w hji z⟩
    cases d with
    | lst l =>
      obtain ⟨a, us, rfl, ⟨w, k, n⟩, f⟩ := vs
      obtain ⟨lo, st'⟩ := free a _ w (.inr ⟨i, rfl⟩)
      refine ⟨_, ⟨p.θ, updW p.W a none, p.H⟩, he, rfl, lo, sr.loos (by rw [List.length_set]) (go _ ⟨a, us, rfl, ⟨updW_same, k⟩, f.upW⟩ fun j l x y ne z => z.loos (by rw [w]; exact fun q => ne (by cases q; rfl))) (fun n => by rw [w]; exact fun z => nomatch z) (fun n f => by rw [w]; exact fun z => nomatch z), st', a, us, rfl, ⟨updW_same, k⟩, f.upW⟩
    | dic l =>
      obtain ⟨a, us, rfl, ⟨w, k, n⟩, f⟩ := vs
      obtain ⟨lo, st'⟩ := free a _ w (.inr ⟨i, rfl⟩)
      refine ⟨_, ⟨p.θ, updW p.W a none, p.H⟩, he, rfl, lo, sr.loos (by rw [List.length_set]) (go _ ⟨a, us, rfl, ⟨updW_same, .inl k⟩, f.upW⟩ fun j l x y ne z => z.loos (by rw [w]; exact fun q => ne (by cases q; rfl))) (fun n => by rw [w]; exact fun z => nomatch z) (fun n f => by rw [w]; exact fun z => nomatch z), st', a, us, rfl, ⟨updW_same, .inl k⟩, f.upW⟩
    | _ => exact ⟨_, p, he, rfl, .refl, ⟨by rw [List.length_set]; exact sr.len, go p vs fun _ _ _ _ _ z => z, sr.st, sr.obj, sr.lab, sr.dom⟩, st, vs⟩
  | .borF n f, h, he => exact he.elim
end
end Pv

set_option autoImplicit false
set_option linter.all false
set_option Elab.async false
set_option maxRecDepth 100000
namespace Pv
open PySem PySem.Spec PyProof.Rows L2
section
variable {K : PySem.W.Frag} {N : Hp} {p p0 p1 p2 : Ph} {env env1 env2 : Env} {μ μ1 μ2 : Store} {σ : L2.St}
theorem tru_ok' {d : D} {v : V} {R : Bool → Prop} (h : An K p d v) (t : tru d R) : ∃ k, TruV K v p.H k ∧ R k := by
  cases d with
  | non => rw [show v = .non from h]; exact ⟨false, rfl, t⟩
  | bl b => rw [show v = .bl b from h]; exact ⟨b, rfl, t⟩
  | int i => rw [show v = .int i from h]; exact ⟨_, rfl, t⟩
  | str s =>
    rw [show v = .str (toStr s) from h]
    refine ⟨_, ⟨?_, rfl⟩, ?_⟩
    · rw [toStr_len]; exact t.1
    · rw [toStr_len]
      have e : (((s.length : Nat) : Int) != 0) = !s.isEmpty := by cases s <;> simp <;> omega
      rw [e]; exact t.2
  | tup l =>
    obtain ⟨a, vs, rfl, z, f⟩ := h
    refine ⟨_, .inr (.inl ⟨vs, z.elim .inr fun z => .inl z.2, rfl⟩), ?_⟩
    have e : (!vs.isEmpty) = !l.isEmpty := by have := f.length; cases vs <;> cases l <;> simp_all
    rw [e]; exact t
  | lst l =>
    obtain ⟨a, vs, rfl, z, f⟩ := h
    refine ⟨_, .inl ⟨vs, .inl z, rfl⟩, ?_⟩
    have e : (!vs.isEmpty) = !l.isEmpty := by have := f.length; cases vs <;> cases l <;> simp_all
    rw [e]; exact t
  | dic l => exact t.elim
  | ref n => exact t.elim
  | fn n => exact t.elim
  | rep n => exact t.elim
theorem tru_imp {d : D} {R S : Bool → Prop} (t : tru d R) (h : ∀ k, R k → S k) : tru d S := by
  cases d <;> first | exact h _ t | exact ⟨t.1, h _ t.2⟩ | exact t.elim
/-- the truth is one -/
theorem tru_at {d : D} {R : Bool → Prop} (t : tru d R) : ∃ b, ∀ g, tru d g ↔ g b := by
  cases d <;> first | exact ⟨_, fun g => Iff.rfl⟩ | exact ⟨_, fun g => ⟨fun h => h.2, fun h => ⟨t.1, h⟩⟩⟩ | exact t.elim
end
section
variable {X : Cx} {N : Hp} {z : Ev} {pos : Pos} {a b c : Expr} {ea eb ec : E}
theorem VR.from {K : PySem.W.Frag} {p0 p1 p : Ph} {env : Env} {μ : Store} {σ : L2.St} {k : Kd} {d : D} {v : V} (h : VR K p1 p env μ σ k d v) (s : Step p0 p1) : VR K p0 p env μ σ k d v := by
  have hd : ∀ a, p1.H a = none → p0.H a = none := fun a e => by
    cases q : p0.H a with
    | none => rfl
    | some u => exact absurd e (s.dom a (by rw [q]; exact fun z => nomatch z))
  match k, h with
  | .fz, h => exact h
  | .fresh, h => exact Ow.le (Loos.refl).le (fun _ _ w q => ⟨w, q⟩) (fun a _ e => hd a e) h
  | .bor i, h => exact h
  | .borF n f, h => exact h
/-! ### operators -/
theorem pv_bin {op : BOp} (ha : PE X a (tE X.K N z ea)) (hb : PE X b (tE X.K N z eb)) : PE X (.BinOp a (opOf op) b pos) (tE X.K N z (.bin op ea eb)) := by
  refine peImp (pe_op (op_bin op) ha hb) fun σ H Q h => ?_
  obtain ⟨p, env, μ, Po, rfl, sr, hw, post⟩ := h
  refine ⟨p, env, μ, _, rfl, sr, hw, fun k x env1 μ1 p1 v h1 sr1 st1 vr1 => ⟨p1, env1, μ1, _, rfl, sr1, h1, fun k' y env2 μ2 p2 w h2 sr2 st2 vr2 => ?_⟩⟩
  obtain ⟨kp, hb⟩ := h2
  exact ⟨p2, x, y, _, rfl, vr1.later st2 sr2 kp, vr2.an sr2, hb, fun d p' v' hd ext vn => post _ d env2 μ2 p' v' hd (sr2.ext ext) (st1.trans (st2.trans ext.step)) (vn.vr (st1.trans st2))⟩
theorem pv_cmp {op : COp} (hu : X.A.units + 65 < cLine) (ha : PE X a (tE X.K N z ea)) (hb : PE X b (tE X.K N z eb)) (hm : behindInMarks (copOf op) b = false) : PE X (.Compare a [copOf op] [b] pos) (tE X.K N z (.cmp op ea eb)) := by
  refine peImp (pe_cmpR (op_cmp op hu) ha hb hm) fun σ H Q h => ?_
  obtain ⟨p, env, μ, Po, rfl, sr, hw, post⟩ := h
  refine ⟨p, env, μ, _, rfl, sr, hw, fun k x env1 μ1 p1 v h1 sr1 st1 vr1 => ⟨p1, env1, μ1, _, rfl, sr1, h1, fun k' y env2 μ2 p2 w h2 sr2 st2 vr2 => ?_⟩⟩
  obtain ⟨kp, hb⟩ := h2
  exact ⟨p2, x, y, _, rfl, vr1.later st2 sr2 kp, vr2.an sr2, hb, fun d hd => post _ _ env2 μ2 p2 _ hd sr2 (st1.trans st2) rfl⟩
theorem pv_chain {op op' : COp} (hu : X.A.units + 65 < cLine) (ha : PE X a (tE X.K N z ea)) (hb : PE X b (tE X.K N z eb)) (hc : PE X c (tE X.K N z ec)) (hm : lastMarks [copOf op, copOf op'] [b, c] = false) :
    PE X (.Compare a [copOf op, copOf op'] [b, c] pos) (tE X.K N z (.chain op op' ea eb ec)) := by
  refine peImp (pe_chain (op_cmp op hu) (op_cmp op' hu) ha hb hc hm) fun σ H Q h => ?_
  obtain ⟨p, env, μ, Po, rfl, sr, hw, post⟩ := h
  refine ⟨p, env, μ, _, rfl, sr, hw, fun k x env1 μ1 p1 v h1 sr1 st1 vr1 => ⟨p1, env1, μ1, _, rfl, sr1, h1, fun k' y env2 μ2 p2 w h2 sr2 st2 vr2 => ?_⟩⟩
  obtain ⟨kp, hb⟩ := h2
  refine ⟨p2, x, y, _, rfl, vr1.later st2 sr2 kp, vr2.an sr2, hb, fun t ht => ⟨t, rfl, ?_⟩⟩
  cases t with
  | false => exact post _ _ env2 μ2 p2 _ ht sr2 (st1.trans st2) rfl
  | true =>
    refine ⟨p2, env2, μ2, _, rfl, sr2, ht, fun k'' z' env3 μ3 p3 v3 h3 sr3 st3 vr3 => ?_⟩
    obtain ⟨kp', hb'⟩ := h3
    exact ⟨p3, y, z', _, rfl, vr2.later st3 sr3 kp', vr3.an sr3, hb', fun d hd => post _ _ env3 μ3 p3 _ hd sr3 (st1.trans (st2.trans st3)) rfl⟩
/-! ### tests -/
def tT (K : PySem.W.Frag) (N : Hp) (z : Ev) (e : E) : TT := fun σ H Q => ∃ p env μ Po, p.H = H ∧ SR K N p env μ σ ∧ wpE z.C z.G z.X e env μ Po ∧
  ∀ k d env' μ' p', Po k d env' μ' → SR K N p' env' μ' σ → Step p p' → tru d fun t => Q t p'.H
theorem ptImp {e : Expr} {t t' : TT} (h : PT X e t) (hi : ∀ σ H Q, t' σ H Q → t σ H Q) : PT X e t' := ⟨fun pins s σ H Q I q => h.run pins s σ H Q I (hi σ H Q q)⟩
theorem pwImp {e : Expr} {t t' : TT} (h : PW X e t) (hi : ∀ σ H Q, t' σ H Q → t σ H Q) : PW X e t' := ⟨fun wh pins s σ H Q I q => h.run wh pins s σ H Q I (hi σ H Q q)⟩
theorem pvt_of (ha : PE X a (tE X.K N z ea)) (he : ∀ whole, isTrue a X.env whole = (do let v ← whole; standAt a.pos; holding [v] (truthy v))) : PT X a (tT X.K N z ea) := by
  refine ptImp (pt_truth ha he) fun σ H Q h => ?_
  obtain ⟨p, env, μ, Po, rfl, sr, hw, post⟩ := h
  exact ⟨p, env, μ, _, rfl, sr, hw, fun k x env1 μ1 p1 v h1 sr1 st1 vr1 => tru_ok' (vr1.an sr1) (post k x env1 μ1 p1 h1 sr1 st1)⟩
theorem pvt_cmp {op : COp} (hu : X.A.units + 65 < cLine) (ha : PE X a (tE X.K N z ea)) (hb : PE X b (tE X.K N z eb)) (hm : behindInMarks (copOf op) b = false) : PT X (.Compare a [copOf op] [b] pos) (tT X.K N z (.cmp op ea eb)) := by
  refine ptImp (pt_cmpR (op_cmp op hu) ha hb hm) fun σ H Q h => ?_
  obtain ⟨p, env, μ, Po, rfl, sr, hw, post⟩ := h
  refine ⟨p, env, μ, _, rfl, sr, hw, fun k x env1 μ1 p1 v h1 sr1 st1 vr1 => ⟨p1, env1, μ1, _, rfl, sr1, h1, fun k' y env2 μ2 p2 w h2 sr2 st2 vr2 => ?_⟩⟩
  obtain ⟨kp, hb⟩ := h2
  exact ⟨p2, x, y, _, rfl, vr1.later st2 sr2 kp, vr2.an sr2, hb, fun d hd => ⟨d, rfl, post _ _ env2 μ2 p2 hd sr2 (st1.trans st2)⟩⟩
theorem pvt_chain {op op' : COp} (hu : X.A.units + 65 < cLine) (ha : PE X a (tE X.K N z ea)) (hb : PE X b (tE X.K N z eb)) (hc : PE X c (tE X.K N z ec)) (hm : lastMarks [copOf op, copOf op'] [b, c] = false) :
    PT X (.Compare a [copOf op, copOf op'] [b, c] pos) (tT X.K N z (.chain op op' ea eb ec)) := by
  refine ptImp (pt_chain (op_cmp op hu) (op_cmp op' hu) ha hb hc hm) fun σ H Q h => ?_
  obtain ⟨p, env, μ, Po, rfl, sr, hw, post⟩ := h
  refine ⟨p, env, μ, _, rfl, sr, hw, fun k x env1 μ1 p1 v h1 sr1 st1 vr1 => ⟨p1, env1, μ1, _, rfl, sr1, h1, fun k' y env2 μ2 p2 w h2 sr2 st2 vr2 => ?_⟩⟩
  obtain ⟨kp, hb⟩ := h2
  refine ⟨p2, x, y, _, rfl, vr1.later st2 sr2 kp, vr2.an sr2, hb, fun t ht => ⟨t, rfl, ?_⟩⟩
  cases t with
  | false => exact ⟨false, rfl, post _ _ env2 μ2 p2 ht sr2 (st1.trans st2)⟩
  | true =>
    refine ⟨p2, env2, μ2, _, rfl, sr2, ht, fun k'' z' env3 μ3 p3 v3 h3 sr3 st3 vr3 => ?_⟩
    obtain ⟨kp', hb'⟩ := h3
    exact ⟨p3, y, z', _, rfl, vr2.later st3 sr3 kp', vr3.an sr3, hb', fun d hd => ⟨d, rfl, post _ _ env3 μ3 p3 hd sr3 (st1.trans (st2.trans st3))⟩⟩
theorem pvt_and1 (ha : PT X a (tT X.K N z ea)) : PW X (.BoolOp .And [a] pos) (tT X.K N z ea) := pw_and1 ha
theorem pvt_or1 (ha : PT X a (tT X.K N z ea)) : PW X (.BoolOp .Or [a] pos) (tT X.K N z ea) := pw_or1 ha
theorem pvt_and {rest : List Expr} (ha : PT X a (tT X.K N z ea)) (hb : PW X (.BoolOp .And (b :: rest) pos) (tT X.K N z eb)) : PW X (.BoolOp .And (a :: b :: rest) pos) (tT X.K N z (.and_ ea eb)) := by
  refine pwImp (pw_and ha hb) fun σ H Q h => ?_
  obtain ⟨p, env, μ, Po, rfl, sr, hw, post⟩ := h
  refine ⟨p, env, μ, _, rfl, sr, hw, fun k x env1 μ1 p1 h1 sr1 st1 => ?_⟩
  obtain ⟨t, ht⟩ := tru_at h1
  have h1 := (ht _).mp h1
  refine (ht _).mpr ?_
  cases t with
  | true =>
    rw [if_pos rfl] at h1 ⊢
    exact ⟨p1, env1, μ1, Po, rfl, sr1, h1, fun k' d env2 μ2 p2 h2 sr2 st2 => post k' d env2 μ2 p2 h2 sr2 (st1.trans st2)⟩
  | false =>
    rw [if_neg (by decide)] at h1 ⊢
    exact (ht _).mp (post k x env1 μ1 p1 h1 sr1 st1)
theorem pvt_or {rest : List Expr} (ha : PT X a (tT X.K N z ea)) (hb : PW X (.BoolOp .Or (b :: rest) pos) (tT X.K N z eb)) : PW X (.BoolOp .Or (a :: b :: rest) pos) (tT X.K N z (.or_ ea eb)) := by
  refine pwImp (pw_or ha hb) fun σ H Q h => ?_
  obtain ⟨p, env, μ, Po, rfl, sr, hw, post⟩ := h
  refine ⟨p, env, μ, _, rfl, sr, hw, fun k x env1 μ1 p1 h1 sr1 st1 => ?_⟩
  obtain ⟨t, ht⟩ := tru_at h1
  have h1 := (ht _).mp h1
  refine (ht _).mpr ?_
  cases t with
  | false =>
    rw [if_neg (by decide)] at h1 ⊢
    exact ⟨p1, env1, μ1, Po, rfl, sr1, h1, fun k' d env2 μ2 p2 h2 sr2 st2 => post k' d env2 μ2 p2 h2 sr2 (st1.trans st2)⟩
  | true =>
    rw [if_pos rfl] at h1 ⊢
    exact (ht _).mp (post k x env1 μ1 p1 h1 sr1 st1)
theorem pvt_not (ha : PT X a (tT X.K N z ea)) : PT X (.UnaryOp .Not a pos) (tT X.K N z (.not_ ea)) := by
  refine ptImp (pt_not ha) fun σ H Q h => ?_
  obtain ⟨p, env, μ, Po, rfl, sr, hw, post⟩ := h
  refine ⟨p, env, μ, _, rfl, sr, hw, fun k x env1 μ1 p1 h1 sr1 st1 => ?_⟩
  exact tru_imp h1 fun t ht => post _ _ env1 μ1 p1 ht sr1 st1
/-! ### and, or, not, if else as values -/
theorem pv_one {op : BoolOp} (ha : PE X a (tE X.K N z ea)) : PE X (.BoolOp op [a] pos) (tE X.K N z ea) := pe_one ha
theorem pv_and {rest : List Expr} (ha : PE X a (tE X.K N z ea)) (hb : PE X (.BoolOp .And (b :: rest) pos) (tE X.K N z eb)) : PE X (.BoolOp .And (a :: b :: rest) pos) (tE X.K N z (.and_ ea eb)) := by
  refine peImp (pe_andT ha hb) fun σ H Q h => ?_
  obtain ⟨p, env, μ, Po, rfl, sr, hw, post⟩ := h
  refine ⟨p, env, μ, _, rfl, sr, hw, fun k x env1 μ1 p1 v h1 sr1 st1 vr1 => ?_⟩
  obtain ⟨t, tv, ht⟩ := tru_ok' (vr1.an sr1) h1
  refine ⟨t, tv, ?_⟩
  cases t with
  | true =>
    rw [if_pos rfl] at ht ⊢
    exact ⟨p1, env1, μ1, Po, rfl, sr1, ht, fun k' d env2 μ2 p2 v2 h2 sr2 st2 vr2 => post k' d env2 μ2 p2 v2 h2 sr2 (st1.trans st2) (vr2.from st1)⟩
  | false =>
    rw [if_neg (by decide)] at ht ⊢
    exact post k x env1 μ1 p1 v ht sr1 st1 vr1
theorem pv_or {rest : List Expr} (ha : PE X a (tE X.K N z ea)) (hb : PE X (.BoolOp .Or (b :: rest) pos) (tE X.K N z eb)) : PE X (.BoolOp .Or (a :: b :: rest) pos) (tE X.K N z (.or_ ea eb)) := by
  refine peImp (pe_orT ha hb) fun σ H Q h => ?_
  obtain ⟨p, env, μ, Po, rfl, sr, hw, post⟩ := h
  refine ⟨p, env, μ, _, rfl, sr, hw, fun k x env1 μ1 p1 v h1 sr1 st1 vr1 => ?_⟩
  obtain ⟨t, tv, ht⟩ := tru_ok' (vr1.an sr1) h1
  refine ⟨t, tv, ?_⟩
  cases t with
  | false =>
    rw [if_neg (by decide)] at ht ⊢
    exact ⟨p1, env1, μ1, Po, rfl, sr1, ht, fun k' d env2 μ2 p2 v2 h2 sr2 st2 vr2 => post k' d env2 μ2 p2 v2 h2 sr2 (st1.trans st2) (vr2.from st1)⟩
  | true =>
    rw [if_pos rfl] at ht ⊢
    exact post k x env1 μ1 p1 v ht sr1 st1 vr1
theorem pv_not (ha : PE X a (tE X.K N z ea)) : PE X (.UnaryOp .Not a pos) (tE X.K N z (.not_ ea)) := by
  refine peImp (pe_notT ha) fun σ H Q h => ?_
  obtain ⟨p, env, μ, Po, rfl, sr, hw, post⟩ := h
  refine ⟨p, env, μ, _, rfl, sr, hw, fun k x env1 μ1 p1 v h1 sr1 st1 vr1 => ?_⟩
  obtain ⟨t, tv, ht⟩ := tru_ok' (vr1.an sr1) h1
  exact ⟨t, tv, post _ _ env1 μ1 p1 _ ht sr1 st1 rfl⟩
theorem pv_ite (hc : PT X c (tT X.K N z ec)) (ha : PE X a (tE X.K N z ea)) (hb : PE X b (tE X.K N z eb)) : PE X (.IfExp c a b pos) (tE X.K N z (.ite ec ea eb)) := by
  refine peImp (pe_ifExp hc ha hb) fun σ H Q h => ?_
  obtain ⟨p, env, μ, Po, rfl, sr, hw, post⟩ := h
  refine ⟨p, env, μ, _, rfl, sr, hw, fun k x env1 μ1 p1 h1 sr1 st1 => ?_⟩
  refine tru_imp h1 fun t ht => ?_
  cases t with
  | true =>
    rw [if_pos rfl] at ht ⊢
    exact ⟨p1, env1, μ1, Po, rfl, sr1, ht, fun k' d env2 μ2 p2 v2 h2 sr2 st2 vr2 => post k' d env2 μ2 p2 v2 h2 sr2 (st1.trans st2) (vr2.from st1)⟩
  | false =>
    rw [if_neg (by decide)] at ht ⊢
    exact ⟨p1, env1, μ1, Po, rfl, sr1, ht, fun k' d env2 μ2 p2 v2 h2 sr2 st2 vr2 => post k' d env2 μ2 p2 v2 h2 sr2 (st1.trans st2) (vr2.from st1)⟩
theorem pv_neg (ha : PE X a (tE X.K N z ea)) : PE X (.UnaryOp .USub a pos) (tE X.K N z (.neg ea)) := by
  refine peImp (pe_un un_neg ha) fun σ H Q h => ?_
  obtain ⟨p, env, μ, Po, rfl, sr, hw, post⟩ := h
  refine ⟨p, env, μ, _, rfl, sr, hw, fun k x env1 μ1 p1 v h1 sr1 st1 vr1 => ?_⟩
  obtain ⟨i, rfl, h1⟩ := h1
  have e : v = .int i := vr1.an sr1
  exact ⟨i, e, post _ _ env1 μ1 p1 _ h1 sr1 st1 rfl⟩
/-! ### members -/
theorem atI_eq {α : Type} (xs : List α) (i : Int) : L2.atI xs i = Pv.atI xs i := rfl
theorem FzL.atI {K : PySem.W.Frag} {p : Ph} {ds : List D} {vs : List V} {i : Int} {d : D} (h : FzL K p ds vs) (e : Pv.atI ds i = some d) : ∃ v, Pv.atI vs i = some v ∧ Fz K p d v := by
  unfold Pv.atI at e ⊢
  rw [← h.length]
  cases q : Pv.ixN ds.length i with
  | none => rw [q] at e; cases e
  | some j =>
    rw [q] at e
    exact h.get (i := j) e
def rIxP (K : PySem.W.Frag) (N : Hp) (μ : Store) : R2 := fun x y H Q => ∃ p env σ0 dx dy R, p.H = H ∧ SR K N p env μ σ0 ∧ An K p dx x ∧ An K p dy y ∧ idxP dx dy μ R ∧ ∀ k d v, R k d → VR K p p env μ σ0 k d v → Q v p.H
theorem ix_P {μ : Store} (hu : X.A.units + 1 < cLine) : IxR X (rIxP X.K N μ) := by
  intro value slice pins s σ H x y v u Q I rx ry h hs
  obtain ⟨p, env, σ0, dx, dy, R, rfl, sr, ax, ay, hb, q⟩ := h
  unfold idxP at hb
  split at hb
  · obtain ⟨a, vs, rfl, z, f⟩ := ax
    obtain rfl : y = .int _ := ay
    obtain ⟨d, e, hb⟩ := hb
    obtain ⟨w, ew, zw⟩ := f.atI e
    exact ix_tup value slice pins s σ _ _ _ v u Q I rx ry ⟨a, vs, _, w, rfl, rfl, z.elim .inr fun z => .inl z.2, ew, q _ _ _ hb zw⟩ hs
  · obtain ⟨a, vs, rfl, z, f⟩ := ax
    obtain rfl : y = .int _ := ay
    obtain ⟨d, e, hb⟩ := hb
    obtain ⟨w, ew, zw⟩ := f.atI e
    exact ix_list value slice pins s σ _ _ _ v u Q I rx ry ⟨a, vs, _, w, rfl, rfl, .inl z, ew, q _ _ _ hb zw⟩ hs
  · obtain rfl : x = .str _ := ax
    obtain rfl : y = .int _ := ay
    obtain ⟨hl, c, e, hb⟩ := hb
    exact ix_str value slice pins s σ _ _ _ v u Q I rx ry ⟨toStr _, _, c, rfl, rfl, by rw [toStr_len]; exact hl, by rw [show (toStr _).cps.toList = _ from rfl]; exact e, q _ _ _ hb rfl⟩ hs
  · obtain ⟨a, ps, rfl, z, f⟩ := ax
    obtain ⟨kx, d, e, hb⟩ := hb
    obtain ⟨k, hk⟩ := isKey_of kx
    have ev := key_an hk ay
    obtain ⟨w, ew, zw⟩ := (f.find hk).1 d e
    obtain rfl : v = Value.ref a := rx
    have g : DGet p.H a y (some w) := .inl ⟨ps, k, z, ev, ew.symm⟩
    exact tail_any (dict_typeIs I g) PySem.F.slot_dict_getitem.lookup (d_getItem hu I g ry fun w' s3 I3 rw' => ⟨w, p.H, I3, rw', q _ _ _ hb zw⟩) hs
  · obtain ⟨a, ea, rfl⟩ := ax
    obtain rfl : y = .str _ := ay
    obtain ⟨o, l, d, e1, e2, e3, hb⟩ := hb
    obtain ⟨a', ps, w, h1, h2, h3, h4, h5, h6⟩ := sr.field e1 e3
    rw [ea] at h1; cases h1
    obtain rfl : v = Value.ref a := rx
    have g : DGet p.H a (.str (toStr _)) (some w) := .inl ⟨ps, .inr (toStr _), .inl h3, rfl, h5.symm⟩
    refine tail_any (dict_typeIs I g) PySem.F.slot_dict_getitem.lookup (d_getItem hu I g ry fun w' s3 I3 rw' => ⟨w, p.H, I3, rw', q _ _ _ hb ?_⟩) hs
    cases l with
    | zero => exact h6
    | succ l => exact ⟨o, l, e1, e3, a, ps, ea, h3, h5⟩
  · exact hb.elim
theorem pv_idx (hu : X.A.units + 1 < cLine) (ha : PE X a (tE X.K N z ea)) (hb : PE X b (tE X.K N z eb)) (hs : PlainIx b) : PE X (.Subscript a b pos) (tE X.K N z (.idx ea eb)) := by
  refine ⟨fun pins s σ H Q I h => ?_⟩
  obtain ⟨p, env, μ, Po, rfl, sr, hw, post⟩ := h
  refine Subscript_ (thn (ha.run pins s σ _ (fun v H1 => tE X.K N z eb σ H1 fun w H2 => ∃ μ2, rIxP X.K N μ2 v w H2 Q) I ⟨p, env, μ, _, rfl, sr, hw, fun k x env1 μ1 p1 v h1 sr1 st1 vr1 => ⟨p1, env1, μ1, _, rfl, sr1, h1, fun k' y env2 μ2 p2 w h2 sr2 st2 vr2 => ?_⟩⟩) fun u s1 ⟨v, H1, I1, r1, q1⟩ => thn (hb.run pins s1 σ H1 _ I1 q1) fun u2 s2 ⟨w, H2, I2, r2, μ2, q2⟩ => ix_P hu a b pins s2 σ H2 v w u u2 Q I2 r1 r2 q2 (hs _ _))
  obtain ⟨kp, hb⟩ := h2
  refine ⟨μ2, p2, env2, σ, x, y, _, rfl, sr2, vr1.later st2 sr2 kp, vr2.an sr2, hb, fun k d v' hd vn => post _ d env2 μ2 p2 v' hd sr2 (st1.trans st2) ?_⟩
  cases k with
  | fresh => exact vn.from (st1.trans st2)
  | _ => exact vn
end
end Pv

set_option autoImplicit false
set_option linter.all false
set_option Elab.async false
set_option maxRecDepth 100000
namespace Pv
open PySem PySem.Spec PyProof.Rows L2
section
variable {X : Cx} {N : Hp} {z : Ev} {pos p2 : Pos} {a b c e : Expr} {ea eb ec : E} {es : List Expr} {ees : List E}
/-! ### slices -/
theorem cutV_cut (vs : List V) (lo hi : Option Int) : cutV vs lo hi = Pv.cut vs lo hi := rfl
theorem FzKV.length {K : PySem.W.Frag} {p : Ph} : ∀ {ds : List (D × D)} {vs : List (Key × V)}, FzKV K p ds vs → ds.length = vs.length
  | [], vs, h => by rw [show vs = [] from h]; rfl
  | (k, d) :: r, vs, h => by
    obtain ⟨q, v, ws, rfl, _, _, t⟩ := h
    simp [FzKV.length t]
theorem FzL.cut {K : PySem.W.Frag} {p : Ph} {ds : List D} {vs : List V} {lo hi : Option Int} (h : FzL K p ds vs) : FzL K p (Pv.cut ds lo hi) (Pv.cut vs lo hi) := by
  unfold Pv.cut
  rw [h.length]
  exact FzL.take _ (FzL.drop _ h)
def tO (K : PySem.W.Frag) (N : Hp) (z : Ev) (eo : Option E) : TO := fun σ H Q => ∃ p env μ Po, p.H = H ∧ SR K N p env μ σ ∧ wpO z.C z.G z.X eo env μ Po ∧
  ∀ o env' μ' p', Po o env' μ' → SR K N p' env' μ' σ → Step p p' → ∃ i, optI o = some i ∧ Q i p'.H
theorem poImp {eo : Option Expr} {t t' : TO} (h : PO X eo t) (hi : ∀ σ H Q, t' σ H Q → t σ H Q) : PO X eo t' := ⟨fun pins s σ H Q I q => h.run pins s σ H Q I (hi σ H Q q)⟩
theorem pvo_none : PO X none (tO X.K N z none) := poImp po_none fun σ H Q h => by
  obtain ⟨p, env, μ, Po, rfl, sr, hw, post⟩ := h
  obtain ⟨i, e, q⟩ := post _ _ _ p hw sr .refl
  cases e
  exact q
theorem pvo_some (ha : PE X a (tE X.K N z ea)) : PO X (some a) (tO X.K N z (some ea)) := poImp (po_some ha) fun σ H Q h => by
  obtain ⟨p, env, μ, Po, rfl, sr, hw, post⟩ := h
  refine ⟨p, env, μ, _, rfl, sr, hw, fun k x env1 μ1 p1 v h1 sr1 st1 vr1 => ?_⟩
  obtain ⟨i, e, q⟩ := post _ _ _ p1 h1 sr1 st1
  cases x <;> first | (cases e; exact ⟨_, vr1.an sr1, q⟩) | cases e
def rSlP (K : PySem.W.Frag) : V → Option Int → Option Int → Hp → VK → Prop := fun x lo hi H Q => ∃ p dx R, p.H = H ∧ An K p dx x ∧ sliceP dx lo hi R ∧ ∀ d p' v, R d → Ext p p' → VN K p p' d v → Q v p'.H
theorem cut_all {α : Type} (xs : List α) (lo hi : Option Int) (h : HT.sIx xs.length 0 lo = 0 ∧ HT.sIx xs.length xs.length hi = xs.length) : Pv.cut xs lo hi = xs := by
  unfold Pv.cut
  have h1 : Pv.sIx xs.length 0 lo = 0 := h.1
  have h2 : Pv.sIx xs.length xs.length hi = xs.length := h.2
  rw [h1, h2]
  simp
theorem sl_P : SlR X (rSlP X.K) := by
  intro pins s σ H x v vl vu lo hi sl Q I rx hs pl pu h
  obtain ⟨p, dx, R, rfl, ax, hb, q⟩ := h
  unfold sliceP at hb
  split at hb
  · rename_i l
    obtain ⟨a, vs, rfl, z, f⟩ := ax
    refine sl_tupA pins s σ _ _ v vl vu lo hi sl Q I rx hs pl pu ⟨a, vs, rfl, z.elim .inr fun z => .inl z.2, fun hw => ?_, fun hw c hc => ?_⟩
    · rw [cut_all l lo hi (by rw [f.length]; exact hw)] at hb
      exact q _ p _ hb .refl ⟨a, vs, rfl, z, f⟩
    · have n := new_tup hc (f.cut (lo := lo) (hi := hi))
      exact q _ _ _ hb n.1 n.2
  · obtain ⟨a, vs, rfl, z, f⟩ := ax
    refine sl_list pins s σ _ _ v vl vu lo hi sl Q I rx hs pl pu ⟨a, vs, rfl, .inl z, fun c hc => ?_⟩
    have n := new_lst hc (f.cut (lo := lo) (hi := hi))
    exact q _ _ _ hb n.1 n.2
  · rename_i t
    obtain rfl : x = .str _ := ax
    refine sl_str pins s σ _ _ v vl vu lo hi sl Q I rx hs pl pu ⟨toStr t, rfl, by rw [toStr_len]; exact hb.1, ?_⟩
    have e : cutS (toStr t) lo hi = toStr (Pv.cut t lo hi) := by
      unfold cutS
      rw [toStr_len]
      rfl
    rw [e]
    exact q _ p _ hb.2 .refl rfl
  · exact hb.elim
theorem pv_slice {lo hi : Option Expr} {elo ehi : Option E} (ha : PE X a (tE X.K N z ea)) (hl : PO X lo (tO X.K N z elo)) (hh : PO X hi (tO X.K N z ehi)) : PE X (.Subscript a (.Slice lo hi none p2) pos) (tE X.K N z (.slice ea elo ehi)) := by
  refine peImp (pe_slice sl_P ha hl hh) fun σ H Q h => ?_
  obtain ⟨p, env, μ, Po, rfl, sr, hw, post⟩ := h
  refine ⟨p, env, μ, _, rfl, sr, hw, fun k x env1 μ1 p1 v h1 sr1 st1 vr1 => ⟨p1, env1, μ1, _, rfl, sr1, h1, fun l env2 μ2 p2 h2 sr2 st2 => ?_⟩⟩
  obtain ⟨i, e1, h2⟩ := h2
  refine ⟨i, e1, p2, env2, μ2, _, rfl, sr2, h2, fun hh env3 μ3 p3 h3 sr3 st3 => ?_⟩
  obtain ⟨j, e2, kp, h3⟩ := h3
  refine ⟨j, e2, p3, x, _, rfl, vr1.later (st2.trans st3) sr3 kp, h3, fun d p' v' hd ext vn => post _ d env3 μ3 p' v' hd (sr3.ext ext) (st1.trans (st2.trans (st3.trans ext.step))) (vn.vr (st1.trans (st2.trans st3)))⟩
/-! ### xs[::-1] -/
theorem range_pick (f : Nat → Option Value) (ys : List Value) (h : ∀ k, k < ys.length → f k = ys[k]?) : ∀ n, n ≤ ys.length → (List.range n).filterMap f = ys.take n
  | 0, _ => rfl
  | n + 1, hn => by
    rw [List.range_succ, List.filterMap_append, range_pick f ys h n (by omega), List.take_succ]
    congr 1
    rw [List.filterMap_cons, h n hn, List.getElem?_eq_getElem hn]
    rfl
theorem range_rev (xs : List Value) : (List.range xs.length).filterMap (fun (k : Nat) => xs.toArray[((((xs.length : Nat) : Int) - 1) + (k : Int) * (-1)).toNat]?) = xs.reverse := by
  have := range_pick (fun (k : Nat) => xs.toArray[((((xs.length : Nat) : Int) - 1) + (k : Int) * (-1)).toNat]?) xs.reverse (fun k hk => by
    rw [List.length_reverse] at hk
    show xs.toArray[((((xs.length : Nat) : Int) - 1) + (k : Int) * (-1)).toNat]? = _
    rw [show ((((xs.length : Nat) : Int) - 1) + (k : Int) * (-1)).toNat = xs.length - 1 - k by omega, List.getElem?_reverse hk]
    simp) xs.length (by rw [List.length_reverse]; omega)
  rw [this, List.take_of_length_le (by rw [List.length_reverse]; omega)]
theorem sliceApplied_rev {prog : Program} {w : World} {A : Around} {E : Value → Shared → Prop} {s : Shared} {sl : Addr} {vl vu vs : Value} {n : Nat} {Q : Int × Int × Nat → Shared → Prop} (hs : s.heap.IsSliceOf sl vl vu vs) (pl : IsPart vl none) (pu : IsPart vu none) (ps : IsPart vs (some (-1)))
    (h : Q ((n : Int) - 1, -1, n) s) : wpAny (model prog w) A (Builtin.Slice.sliceApplied (.ref sl) (pure (n : Int))) Q E s := by
  obtain ⟨os, hos, hcs, hds⟩ := id hs
  unfold Builtin.Slice.sliceApplied Builtin.Slice.sliceFields
  refine wpAny_bind (wpAny_bind (wpAny_field hos hds (x := vl) rfl (wpAny_bind (wpAny_field hos hds (x := vu) rfl (wpAny_bind (wpAny_field hos hds (x := vs) rfl (wpAny_pure ?_)))))))
  refine wpAny_bind (HT.slicePart_ ps ?_)
  show wpAny _ _ (if ((-1 : Int) == 0) = true then _ else _) _ _ s
  rw [if_neg (by decide)]
  refine wpAny_bind (HT.slicePart_ pl (wpAny_bind (HT.slicePart_ pu (wpAny_bind (wpAny_pure ?_)))))
  show wpAny _ _ (pure ((n : Int) - 1, (-1 : Int), Builtin.Slice.slicePlaces ((n : Int) - 1) (-1) (-1))) _ _ s
  have e : Builtin.Slice.slicePlaces ((n : Int) - 1) (-1) (-1) = n := by
    unfold Builtin.Slice.slicePlaces
    rw [if_neg (by decide)]
    by_cases h0 : n = 0
    · subst h0; rfl
    · rw [if_pos (by omega), show -(-1 : Int) = 1 by decide, Int.ediv_one]
      omega
  rw [e]
  exact wpAny_pure h
theorem getItem_tuple_rev {prog : Program} {w : World} {A : Around} {E : Value → Shared → Prop} {s : Shared} {t sl : Addr} {items : Array Value} {vl vu vs : Value} {Q : Value → Shared → Prop} (ht : IsTup s.heap t items) (hs : s.heap.IsSliceOf sl vl vu vs) (pl : IsPart vl none) (pu : IsPart vu none) (ps : IsPart vs (some (-1)))
    (h : Q (.ref s.heap.objs.size) { s with heap := s.heap.push { cls := .type "tuple", data := .seq items.toList.reverse.toArray } })
    (hsz : items.size ≤ sizeLine) : wpAny (model prog w) A (getItem (.ref t) (.ref sl)) Q E s := by
  have htake : sizeOk (.seq items.toList.reverse.toArray) := by
    show items.toList.reverse.toArray.size ≤ sizeLine
    rw [List.size_toArray, List.length_reverse, Array.length_toList]
    exact hsz
  obtain ⟨os, hos, hcs, hds⟩ := id hs
  have hTs : s.TypeIs (.ref sl) "slice" := ⟨os, hos, hcs⟩
  unfold getItem
  try with_reducible refine wpAny_holding ?_
  first | refine wpAny_bind (wpAny_pure ?_) | skip
  refine wpAny_bind (wpAny_sequenceKey ht.typeIs (by decide) ?_)
  refine wpAny_bind (wpAny_callSpecial?_slot (name := Str.ofString "__getitem__") ht.typeIs PyProof.Rows.slot_tuple_getitem
    (wpAny_call_entry PyProof.Rows.slot_tuple_getitem ht.typeIs entry_tuple_getitem ?_ (args_tuple_getitem _ _)))
  show wpAny _ _ (Builtin.Tuple.tupleItemsOf (.ref t) >>= _) _ _ s
  refine wpAny_bind (tupleItemsOf_ ht ?_)
  refine wpAny_bind (wpAny_typeOf hTs ?_)
  rw [if_pos (by decide)]
  refine wpAny_bind (sliceApplied_rev hs pl pu ps ?_)
  have hno : ¬ ((((items.size : Nat) : Int) - 1 == 0 && (-1 : Int) == 1 && items.size == items.size) = true) := by
    rw [show ((-1 : Int) == 1) = false from rfl, Bool.and_false, Bool.false_and]
    exact Bool.false_ne_true
  show wpAny _ _ (if (((items.size : Nat) : Int) - 1 == 0 && (-1 : Int) == 1 && items.size == items.size) = true then _ else _) _ _ s
  have er : ((List.range items.size).filterMap fun (k : Nat) => items[((((items.size : Nat) : Int) - 1) + (k : Int) * (-1)).toNat]?).toArray = items.toList.reverse.toArray := by
    obtain ⟨l⟩ := items
    rw [List.size_toArray]
    exact congrArg List.toArray (range_rev l)
  rw [if_neg hno, er]
  first
    | exact wpAny_bind (m := Builtin.Tuple.tupleExact _) (wpAny_newObj_type (wpAny_pure ⟨_, rfl, wpAny_pure h⟩) htake)
    | exact wpAny_bind (m := Builtin.Tuple.tupleExact _) (wpAny_newObj_type (wpAny_bind (wpAny_pure (wpAny_pure ⟨_, rfl, wpAny_pure h⟩))) htake)
    | exact wpAny_bind (wpAny_bind (m := Builtin.Tuple.tupleExact _) (wpAny_newObj_type (wpAny_pure (wpAny_pure ⟨_, rfl, wpAny_pure h⟩)) htake))
    | exact wpAny_bind (wpAny_bind (m := Builtin.Tuple.tupleExact _) (wpAny_newObj_type (wpAny_pure ⟨_, rfl, wpAny_pure h⟩) htake))
def tRevA (K : PySem.W.Frag) (te : TE) : TE := fun σ H Q => te σ H fun x H1 => ∃ a xs, x = .ref a ∧ ((SqL K H1 a xs ∧ ∀ p, H1 p = none → Q (.ref p) (upd H1 p (.lst xs.reverse))) ∨ (SqT K H1 a xs ∧ ∀ p, H1 p = none → Q (.ref p) (upd H1 p (.tup xs.reverse))))
theorem pe_revA {X : Cx} {e : Expr} {te : TE} {k : Nat} {p1 p2 p3 pos : Pos} (he : PE X e te) : PE X (.Subscript e (.Slice none none (some (.UnaryOp .USub (.Constant (.int 1) k p1) p2)) p3) pos) (tRevA X.K te) := by
  refine ⟨fun pins s σ H Q I h => ?_⟩
  refine Subscript_ (thn (he.run pins s σ H _ I h) fun v s1 ⟨x, H1, I1, r1, q1⟩ => ?_)
  obtain ⟨a, xs, ex, q1⟩ := q1
  subst ex
  cases r1
  have hst : PO X (some (.UnaryOp .USub (.Constant (.int 1) k p1) p2)) (tPart (tUn (rU fun i => .int (-i)) (tC (.int 1)))) := po_some (pe_un un_neg pe_int)
  refine wpAny_Slice (thn (po_none.run pins s1 σ H1 (fun o H2 => o = none ∧ H2 = H1) I1 ⟨rfl, rfl⟩) fun vl s2 ⟨l, H2, I2, pl, el, e2⟩ => ?_)
  subst el e2
  refine thn (po_none.run pins s2 σ H2 (fun o H3 => o = none ∧ H3 = H2) I2 ⟨rfl, rfl⟩) fun vu s3 ⟨u, H3, I3, pu, eu, e3⟩ => ?_
  subst eu e3
  refine thn (hst.run pins s3 σ H3 (fun o H4 => o = some (-1) ∧ H4 = H3) I3 ⟨1, rfl, -1, rfl, rfl, rfl⟩) fun vs s4 ⟨o, H4, I4, ps, eo, e4⟩ => ?_
  subst eo e4
  have I5 : Inv X pins σ H4 { s4 with heap := s4.heap.push { cls := .type "slice", data := .fields #[vl, vu, vs] } } := I4.kept (t' := s4.toks) fun b ob q => Heap.get?_push_of_some _ q
  show wpAny (model X.prog X.w) X.A (subscriptTail e (.Slice none none (some (.UnaryOp .USub (.Constant (.int 1) k p1) p2)) p3) (.ref a) (.ref s4.heap.objs.size)) (EP X pins σ Q) X.xe { s4 with heap := s4.heap.push { cls := .type "slice", data := .fields #[vl, vu, vs] } }
  rcases q1 with ⟨hx, q⟩ | ⟨hx, q⟩
  · obtain ⟨its, r, ht, hz⟩ := I5.list hx
    have hlen := r.length
    refine tail_any (ops := [.ref a, .ref s4.heap.objs.size]) ht.isList.typeIs (PySem.slot_list_getitem.lookup) ?_ (by with_unfolding_all rfl)
    refine wpAny_getItem_list_slice ht.isList (Heap.IsSliceOf.new _ vl vu vs) pl pu ps (by decide) ?_ (by rw [List.size_toArray]; omega)
    rw [PySem.W.krv_pick]
    refine ⟨.ref _, _, I5.laid (t' := s4.toks) (o := .lst xs.reverse) (fun b ob q => Heap.get?_push_of_some _ q) (Nat.le_refl _) ?_, rfl, q _ (I5.hok.fresh (Nat.le_refl _))⟩
    exact ⟨by rw [List.length_reverse]; exact hz, _, 0, r.reverse, Heap.get?_push_size _ rfl⟩
  · obtain ⟨its, r, ht, hz⟩ := I5.tuple hx
    have hlen := r.length
    refine tail_any (ops := [.ref a, .ref s4.heap.objs.size]) ht.typeIs PyProof.Rows.slot_tuple_getitem.lookup ?_ (by with_unfolding_all rfl)
    refine getItem_tuple_rev ht (Heap.IsSliceOf.new _ vl vu vs) pl pu ps ?_ (by rw [List.size_toArray]; omega)
    refine ⟨.ref _, _, I5.laid (t' := s4.toks) (o := .tup xs.reverse) (fun b ob q => Heap.get?_push_of_some _ q) (Nat.le_refl _) ?_, rfl, q _ (I5.hok.fresh (Nat.le_refl _))⟩
    exact ⟨by rw [List.length_reverse]; exact hz, _, r.reverse, IsTup.new _ _⟩
theorem pv_rev {e : Expr} {k : Nat} {q1 q2 q3 : Pos} (ha : PE X e (tE X.K N z ea)) : PE X (.Subscript e (.Slice none none (some (.UnaryOp .USub (.Constant (.int 1) k q1) q2)) q3) pos) (tE X.K N z (.rev ea)) := by
  refine peImp (pe_revA ha) fun σ H Q h => ?_
  obtain ⟨p, env, μ, Po, rfl, sr, hw, post⟩ := h
  refine ⟨p, env, μ, _, rfl, sr, hw, fun k x env1 μ1 p1 v h1 sr1 st1 vr1 => ?_⟩
  unfold revP at h1
  split at h1
  · obtain ⟨a, vs, rfl, z, f⟩ := vr1.an sr1
    refine ⟨a, vs, rfl, .inl ⟨.inl z, fun c hc => ?_⟩⟩
    have n := new_lst hc f.rev
    exact post _ _ env1 μ1 _ _ h1 (sr1.ext n.1) (st1.trans n.1.step) (n.2.vr st1)
  · obtain ⟨a, vs, rfl, z, f⟩ := vr1.an sr1
    refine ⟨a, vs, rfl, .inr ⟨z.elim .inr fun z => .inl z.2, fun c hc => ?_⟩⟩
    have n := new_tup hc f.rev
    exact post _ _ env1 μ1 _ _ h1 (sr1.ext n.1) (st1.trans n.1.step) n.2
  · exact h1.elim
/-! ### displays -/
def tLp (K : PySem.W.Frag) (N : Hp) (z : Ev) (es : List E) : TA := fun σ H Q => ∃ p env μ Po, p.H = H ∧ SR K N p env μ σ ∧ wpL z.C z.G z.X es env μ Po ∧
  ∀ ds env' μ' p' vs, Po ds env' μ' → ds.length = es.length → SR K N p' env' μ' σ → Step p p' → FzL K p' ds vs → Q vs p'.H
theorem paImp {es : List Expr} {t t' : TA} (h : PA X es t) (hi : ∀ σ H Q, t' σ H Q → t σ H Q) : PA X es t' := ⟨fun pos pins s σ H Q I q => h.run pos pins s σ H Q I (hi σ H Q q)⟩
theorem pvl_nil : PA X [] (tLp X.K N z []) := paImp pa_nil fun σ H Q h => by
  obtain ⟨p, env, μ, Po, rfl, sr, hw, post⟩ := h
  exact post [] env μ p [] hw rfl sr .refl rfl
theorem pvl_cons (ha : PE X e (tE X.K N z ea)) (hr : PA X es (tLp X.K N z ees)) (hs : starEach (e :: es) X.env = (false, eval e X.env) :: starEach es X.env := by rfl) : PA X (e :: es) (tLp X.K N z (ea :: ees)) := by
  refine paImp (pa_cons ha hr hs) fun σ H Q h => ?_
  obtain ⟨p, env, μ, Po, rfl, sr, hw, post⟩ := h
  refine ⟨p, env, μ, _, rfl, sr, hw, fun k x env1 μ1 p1 v h1 sr1 st1 vr1 => ?_⟩
  obtain ⟨env2, p2, h2, hh, lo, sr2, st2, fz⟩ := esc_ok sr1 st1 vr1 h1
  refine ⟨p2, env2, μ1, _, hh, sr2, h2, fun ds env3 μ3 p3 vs h3 hl sr3 st3 fl => ?_⟩
  exact post (x :: ds) env3 μ3 p3 (v :: vs) h3 (by simp [hl]) sr3 (st2.trans st3) ⟨v, vs, rfl, Fz.le st3.le _ _ fz, fl⟩
theorem pv_tup {k : Nat} (h : PA X es (tLp X.K N z ees)) (hn : ees.length ≤ 16777216) : PE X (.Tuple es k pos) (tE X.K N z (.tup ees)) := by
  refine peImp (pe_tup h) fun σ H Q h => ?_
  obtain ⟨p, env, μ, Po, rfl, sr, hw, post⟩ := h
  refine ⟨p, env, μ, _, rfl, sr, hw, fun ds env1 μ1 p1 vs h1 hl sr1 st1 fl => ⟨by rw [← fl.length, hl]; exact hn, fun c hc => ?_⟩⟩
  have n := new_tup hc fl
  exact post .fz _ env1 μ1 _ _ h1 (sr1.ext n.1) (st1.trans n.1.step) n.2
theorem pv_lst (h : PA X es (tLp X.K N z ees)) (hn : ees.length ≤ 16777216) : PE X (.List es pos) (tE X.K N z (.lst ees)) := by
  refine peImp (pe_lst h) fun σ H Q h => ?_
  obtain ⟨p, env, μ, Po, rfl, sr, hw, post⟩ := h
  refine ⟨p, env, μ, _, rfl, sr, hw, fun ds env1 μ1 p1 vs h1 hl sr1 st1 fl => ⟨by rw [← fl.length, hl]; exact hn, fun c hc => ?_⟩⟩
  have n := new_lst hc fl
  exact post .fresh _ env1 μ1 _ _ h1 (sr1.ext n.1) (st1.trans n.1.step) (n.2.vr st1)
theorem pv_dnew : PE X (.Dict [] [] pos) (tE X.K N z .dnew) := by
  refine peImp pe_dnewK fun σ H Q h => ?_
  obtain ⟨p, env, μ, Po, rfl, sr, hw, post⟩ := h
  intro d hd
  have n := new_dic (ds := []) (vs := []) hd (show FzKV X.K p [] [] from rfl)
  exact post .fresh _ env μ _ _ hw (sr.ext n.1) n.1.step (n.2.vr .refl)
/-! ### arguments that are looked at -/
def AnL (K : PySem.W.Frag) (p : Ph) : List D → List V → Prop
  | [], vs => vs = []
  | d :: r, vs => ∃ v ws, vs = v :: ws ∧ An K p d v ∧ AnL K p r ws
def tBp (K : PySem.W.Frag) (N : Hp) (z : Ev) (es : List E) : TA := fun σ H Q => ∃ p env μ Po, p.H = H ∧ SR K N p env μ σ ∧ wpB z.C z.G z.X es env μ Po ∧
  ∀ ds env' μ' p' vs, Po ds env' μ' → SR K N p' env' μ' σ → Step p p' → AnL K p' ds vs → Q vs p'.H
theorem pvb_nil : PA X [] (tBp X.K N z []) := paImp pa_nil fun σ H Q h => by
  obtain ⟨p, env, μ, Po, rfl, sr, hw, post⟩ := h
  exact post [] env μ p [] hw sr .refl rfl
theorem pvb_one (ha : PE X e (tE X.K N z ea)) (hs : starEach [e] X.env = (false, eval e X.env) :: starEach [] X.env := by rfl) : PA X [e] (tBp X.K N z [ea]) := by
  refine paImp (pa_cons ha pa_nil hs) fun σ H Q h => ?_
  obtain ⟨p, env, μ, Po, rfl, sr, hw, post⟩ := h
  refine ⟨p, env, μ, _, rfl, sr, hw, fun k x env1 μ1 p1 v h1 sr1 st1 vr1 => ?_⟩
  exact post [x] env1 μ1 p1 [v] h1 sr1 st1 ⟨v, [], rfl, vr1.an sr1, rfl⟩
theorem pvb_cons {e2 : Expr} {ea2 : E} (ha : PE X e (tE X.K N z ea)) (hr : PA X (e2 :: es) (tBp X.K N z (ea2 :: ees))) (hs : starEach (e :: e2 :: es) X.env = (false, eval e X.env) :: starEach (e2 :: es) X.env := by rfl) : PA X (e :: e2 :: es) (tBp X.K N z (ea :: ea2 :: ees)) := by
  refine paImp (pa_cons ha hr hs) fun σ H Q h => ?_
  obtain ⟨p, env, μ, Po, rfl, sr, hw, post⟩ := h
  refine ⟨p, env, μ, _, rfl, sr, hw, fun k x env1 μ1 p1 v h1 sr1 st1 vr1 => ⟨p1, env1, μ1, _, rfl, sr1, h1, fun ds env2 μ2 p2 vs h2 sr2 st2 al => ?_⟩⟩
  exact post (x :: ds) env2 μ2 p2 (v :: vs) h2.2 sr2 (st1.trans st2) ⟨v, vs, rfl, vr1.later st2 sr2 h2.1, al⟩
def rBlt (K : PySem.W.Frag) (f : List D → (D → Prop) → Prop) : List V → Hp → VK → Prop := fun xs H Q => ∃ p ds R, p.H = H ∧ (∀ a o, p.W a = some o → ∃ u, p.H a = some u ∧ Mut (some u)) ∧ AnL K p ds xs ∧ f ds R ∧ ∀ d p' v, R d → Ext p p' → VN K p p' d v → Q v p'.H
theorem pv_bltB {f : Bl} {x : Str} {p : Pos} {id : String} (hc : CallR X (.builtin id) (rBlt X.K (bltP f))) (hg : Gl X x) (hm : X.mg x = none) (hv : bootBuiltins x = some (.builtin id)) (ha : PA X (e :: es) (tBp X.K N z ees))
    (hn : x ≠ "__name__" := by decide) (hdb : (x == ("__debug__" : Str)) = false := by decide) (he : starEach (e :: es) X.env = (false, eval e X.env) :: starEach es X.env := by rfl) (hpl : (backTo pos (starEach es X.env)).any (·.1) = false := by rfl) :
    PE X (.Call (.Name x p) (e :: es) [] pos) (tE X.K N z (.blt f ees)) := by
  refine peImp (pe_callB hc hg hm hv ha hn hdb he hpl) fun σ H Q h => ?_
  obtain ⟨p, env, μ, Po, rfl, sr, hw, post⟩ := h
  refine ⟨p, env, μ, _, rfl, sr, hw, fun ds env1 μ1 p1 vs h1 sr1 st1 al => ⟨p1, ds, _, rfl, sr1.lab, al, h1, fun d p' v' hd ext vn => ?_⟩⟩
  exact post _ d env1 μ1 p' v' hd (sr1.ext ext) (st1.trans ext.step) (vn.vr st1)
theorem pv_bltT {f : Bl} {x : Str} {p : Pos} {T : String} (hc : CallR X (.type T) (rBlt X.K (bltP f))) (hg : Gl X x) (hm : X.mg x = none) (hv : bootBuiltins x = some (.type T)) (ha : PA X (e :: es) (tBp X.K N z ees))
    (hn : x ≠ "__name__" := by decide) (hdb : (x == ("__debug__" : Str)) = false := by decide) (he : starEach (e :: es) X.env = (false, eval e X.env) :: starEach es X.env := by rfl) (hpl : (backTo pos (starEach es X.env)).any (·.1) = false := by rfl) :
    PE X (.Call (.Name x p) (e :: es) [] pos) (tE X.K N z (.blt f ees)) := by
  refine peImp (pe_callTy hc hg hm hv ha hn hdb he hpl) fun σ H Q h => ?_
  obtain ⟨p, env, μ, Po, rfl, sr, hw, post⟩ := h
  refine ⟨p, env, μ, _, rfl, sr, hw, fun ds env1 μ1 p1 vs h1 sr1 st1 al => ⟨p1, ds, _, rfl, sr1.lab, al, h1, fun d p' v' hd ext vn => ?_⟩⟩
  exact post _ d env1 μ1 p' v' hd (sr1.ext ext) (st1.trans ext.step) (vn.vr st1)
end
section
variable {X : Cx}
/-! ### built-in functions -/
theorem cr_len : CallR X (.builtin "len") (rBlt X.K (bltP .len)) := by
  intro pins s σ H xs us Q I r h
  obtain ⟨p, ds, R, rfl, lab, al, hb, q⟩ := h
  change lenP ds R at hb
  unfold lenP at hb
  split at hb
  · obtain ⟨v, _, rfl, ⟨a, vs, rfl, z, f⟩, rfl⟩ := al
    exact call_len_seq pins s σ _ _ us Q I r ⟨a, vs, rfl, z.elim (fun z => .inr (.inr z)) fun z => .inr (.inl z.2), by rw [← f.length]; exact q _ p _ hb .refl rfl⟩
  · obtain ⟨v, _, rfl, ⟨a, vs, rfl, z, f⟩, rfl⟩ := al
    exact call_len_seq pins s σ _ _ us Q I r ⟨a, vs, rfl, .inl (.inl z), by rw [← f.length]; exact q _ p _ hb .refl rfl⟩
  · obtain ⟨v, _, rfl, ⟨a, vs, rfl, z, f⟩, rfl⟩ := al
    obtain ⟨u, rfl, ru⟩ := vals1 r
    cases ru
    exact d_len I z fun t s' I' => ⟨.int vs.length, _, I', ⟨t, rfl⟩, by rw [← f.length]; exact q _ p _ hb .refl rfl⟩
  · obtain ⟨v, _, rfl, e, rfl⟩ := al
    obtain rfl : v = .str _ := e
    exact call_len_str pins s σ _ _ us Q I r ⟨_, rfl, by rw [toStr_len]; exact hb.1, by rw [toStr_len]; exact q _ p _ hb.2 .refl rfl⟩
  · exact hb.elim
theorem cr_abs : CallR X (.builtin "abs") (rBlt X.K (bltP .abs)) := by
  intro pins s σ H xs us Q I r h
  obtain ⟨p, ds, R, rfl, lab, al, hb, q⟩ := h
  change absP ds R at hb
  unfold absP at hb
  split at hb
  · obtain ⟨v, _, rfl, e, rfl⟩ := al
    obtain rfl : v = .int _ := e
    exact call_abs pins s σ _ _ us Q I r ⟨_, rfl, q _ p _ hb .refl rfl⟩
  · exact hb.elim
theorem cr_max2 (hc : X.calm = true) : CallR X (.builtin "max") (rBlt X.K (bltP .max)) := by
  intro pins s σ H xs us Q I r h
  obtain ⟨p, ds, R, rfl, lab, al, hb, q⟩ := h
  change maxP ds R at hb
  unfold maxP at hb
  split at hb
  · obtain ⟨v, _, rfl, e, w, _, rfl, e', rfl⟩ := al
    obtain rfl : v = .int _ := e
    obtain rfl : w = .int _ := e'
    exact call_max2 hc pins s σ _ _ us Q I r ⟨_, _, rfl, q _ p _ hb .refl rfl⟩
  · exact hb.elim
theorem cr_min2 (hc : X.calm = true) : CallR X (.builtin "min") (rBlt X.K (bltP .min)) := by
  intro pins s σ H xs us Q I r h
  obtain ⟨p, ds, R, rfl, lab, al, hb, q⟩ := h
  change minP ds R at hb
  unfold minP at hb
  split at hb
  · obtain ⟨v, _, rfl, e, w, _, rfl, e', rfl⟩ := al
    obtain rfl : v = .int _ := e
    obtain rfl : w = .int _ := e'
    exact call_min2 hc pins s σ _ _ us Q I r ⟨_, _, rfl, q _ p _ hb .refl rfl⟩
  · exact hb.elim
theorem cr_int : CallR X (.type "int") (rBlt X.K (bltP .int)) := by
  intro pins s σ H xs us Q I r h
  obtain ⟨p, ds, R, rfl, lab, al, hb, q⟩ := h
  change intP ds R at hb
  unfold intP at hb
  split at hb
  · obtain ⟨v, _, rfl, e, rfl⟩ := al
    obtain rfl : v = .int _ := e
    exact call_int1 pins s σ _ _ us Q I r (.inl ⟨_, rfl, q _ p _ hb .refl rfl⟩)
  · obtain ⟨v, _, rfl, e, rfl⟩ := al
    obtain rfl : v = .bl _ := e
    exact call_int1 pins s σ _ _ us Q I r (.inr ⟨_, rfl, q _ p _ hb .refl rfl⟩)
  · exact hb.elim
theorem cr_list : CallR X (.type "list") (rBlt X.K (bltP .list)) := by
  intro pins s σ H xs us Q I r h
  obtain ⟨p, ds, R, rfl, lab, al, hb, q⟩ := h
  change listP ds R at hb
  unfold listP at hb
  split at hb
  · obtain ⟨v, _, rfl, ⟨a, vs, rfl, z, f⟩, rfl⟩ := al
    refine call_list_of pins s σ _ _ us Q I r ⟨a, vs, rfl, .inl (.inl z), fun c hc => ?_⟩
    have n := new_lst hc f
    exact q _ _ _ hb n.1 n.2
  · obtain ⟨v, _, rfl, ⟨a, vs, rfl, z, f⟩, rfl⟩ := al
    refine call_list_of pins s σ _ _ us Q I r ⟨a, vs, rfl, z.elim (fun z => .inr (.inr z)) fun z => .inr (.inl z.2), fun c hc => ?_⟩
    have n := new_lst hc f
    exact q _ _ _ hb n.1 n.2
  · exact hb.elim
theorem cr_tuple : CallR X (.type "tuple") (rBlt X.K (bltP .tuple)) := by
  intro pins s σ H xs us Q I r h
  obtain ⟨p, ds, R, rfl, lab, al, hb, q⟩ := h
  change tupleP ds R at hb
  unfold tupleP at hb
  split at hb
  · obtain ⟨v, _, rfl, ⟨a, vs, rfl, z, f⟩, rfl⟩ := al
    refine call_tuple_of pins s σ _ _ us Q I r ⟨a, vs, rfl, .inl ⟨.inl z, fun c hc => ?_⟩⟩
    have n := new_tup hc f
    exact q _ _ _ hb n.1 n.2
  · obtain ⟨v, _, rfl, ⟨a, vs, rfl, z, f⟩, rfl⟩ := al
    exact call_tuple_of pins s σ _ _ us Q I r ⟨a, vs, rfl, .inr ⟨z.elim .inr fun z => .inl z.2, q _ p _ hb .refl ⟨a, vs, rfl, z, f⟩⟩⟩
  · exact hb.elim
/-! ### sorted -/
theorem ints_an {K : PySem.W.Frag} {p : Ph} : ∀ {ds : List D} {vs : List V} {ns : List Int}, FzL K p ds vs → intsOf ds = some ns → ds = ns.map .int ∧ vs = ns.map V.int
  | [], vs, ns, h, e => by
    rw [show vs = [] from h]
    obtain rfl : [] = ns := Option.some.inj e
    exact ⟨rfl, rfl⟩
  | d :: r, vs, ns, h, e => by
    obtain ⟨v, ws, rfl, z, t⟩ := h
    cases d <;> simp only [intsOf, reduceCtorEq] at e
    rename_i i
    cases q : intsOf r with
    | none => rw [q] at e; cases e
    | some ms =>
      rw [q] at e
      obtain rfl : i :: ms = ns := Option.some.inj e
      obtain ⟨e1, e2⟩ := ints_an t q
      rw [show v = .int i from z, e1, e2]
      exact ⟨rfl, rfl⟩
theorem strs_an {K : PySem.W.Frag} {p : Ph} : ∀ {ds : List D} {vs : List V} {ns : List (List Nat)}, FzL K p ds vs → strsOf ds = some ns → ds = ns.map .str ∧ vs = (ns.map toStr).map V.str
  | [], vs, ns, h, e => by
    rw [show vs = [] from h]
    obtain rfl : [] = ns := Option.some.inj e
    exact ⟨rfl, rfl⟩
  | d :: r, vs, ns, h, e => by
    obtain ⟨v, ws, rfl, z, t⟩ := h
    cases d <;> simp only [strsOf, reduceCtorEq] at e
    rename_i i
    cases q : strsOf r with
    | none => rw [q] at e; cases e
    | some ms =>
      rw [q] at e
      obtain rfl : i :: ms = ns := Option.some.inj e
      obtain ⟨e1, e2⟩ := strs_an t q
      rw [show v = .str (toStr i) from z, e1, e2]
      exact ⟨rfl, rfl⟩
theorem fzInts {K : PySem.W.Frag} {p : Ph} : ∀ ns : List Int, FzL K p (ns.map .int) (ns.map V.int)
  | [] => rfl
  | n :: r => ⟨_, _, rfl, rfl, fzInts r⟩
theorem fzStrs {K : PySem.W.Frag} {p : Ph} : ∀ ns : List (List Nat), FzL K p (ns.map .str) ((ns.map toStr).map V.str)
  | [] => rfl
  | n :: r => ⟨_, _, rfl, rfl, fzStrs r⟩
theorem insI_perm (x : Int) : ∀ l : List Int, (insI x l).Perm (x :: l)
  | [] => .refl _
  | y :: r => by
    unfold insI
    split
    · exact .refl _
    · exact ((insI_perm x r).cons y).trans (.swap x y r)
theorem sortI_perm : ∀ l : List Int, (sortI l).Perm l
  | [] => .refl _
  | x :: r => (insI_perm x _).trans ((sortI_perm r).cons x)
theorem insI_pw (x : Int) : ∀ l : List Int, l.Pairwise (· ≤ ·) → (insI x l).Pairwise (· ≤ ·)
  | [], _ => by simp [insI]
  | y :: r, h => by
    unfold insI
    have h' := List.pairwise_cons.mp h
    split
    · rename_i hx
      exact List.pairwise_cons.mpr ⟨fun z hz => by
        rcases List.mem_cons.mp hz with rfl | hz
        · exact hx
        · have := h'.1 z hz; omega, h⟩
    · rename_i hx
      exact List.pairwise_cons.mpr ⟨fun z hz => by
        rcases List.mem_cons.mp ((insI_perm x r).mem_iff.mp hz) with rfl | hz
        · omega
        · exact h'.1 z hz, insI_pw x r h'.2⟩
theorem sortI_pw : ∀ l : List Int, (sortI l).Pairwise (· ≤ ·)
  | [] => .nil
  | x :: r => insI_pw x _ (sortI_pw r)
theorem sortI_uniq {l m : List Int} (h : m.Perm l) (p : m.Pairwise (· ≤ ·)) : m = sortI l :=
  (h.trans (sortI_perm l).symm).eq_of_pairwise (fun a b _ _ h1 h2 => Int.le_antisymm h1 h2) p (sortI_pw l)
theorem leS_refl : ∀ a : List Nat, leS a a = true
  | [] => rfl
  | a :: r => by unfold leS; rw [if_neg (Nat.lt_irrefl a), if_neg (Nat.lt_irrefl a)]; exact leS_refl r
theorem leS_total : ∀ a b : List Nat, leS a b = true ∨ leS b a = true
  | [], _ => .inl rfl
  | _ :: _, [] => .inr rfl
  | a :: r, b :: s => by
    unfold leS
    by_cases h : a < b
    · exact .inl (if_pos h)
    · by_cases h2 : b < a
      · exact .inr (if_pos h2)
      · rw [if_neg h, if_neg h2, if_neg h2, if_neg h]; exact leS_total r s
theorem leS_anti : ∀ a b : List Nat, leS a b = true → leS b a = true → a = b
  | [], [], _, _ => rfl
  | [], _ :: _, _, h => by cases h
  | _ :: _, [], h, _ => by cases h
  | a :: r, b :: s, h, h' => by
    unfold leS at h h'
    by_cases h1 : a < b
    · rw [if_neg (by omega), if_pos h1] at h'; cases h'
    · by_cases h2 : b < a
      · rw [if_neg h1, if_pos h2] at h; cases h
      · rw [if_neg h1, if_neg h2] at h
        rw [if_neg h2, if_neg h1] at h'
        rw [leS_anti r s h h', show a = b by omega]
theorem leS_trans : ∀ a b c : List Nat, leS a b = true → leS b c = true → leS a c = true
  | [], _, _, _, _ => rfl
  | _ :: _, [], _, h, _ => by cases h
  | _ :: _, _ :: _, [], _, h => by cases h
  | a :: r, b :: s, c :: t, h, h' => by
    unfold leS at h h' ⊢
    by_cases h1 : a < b
    · by_cases h2 : b < c
      · rw [if_pos (by omega)]
      · by_cases h3 : c < b
        · rw [if_neg h2, if_pos h3] at h'; cases h'
        · rw [if_pos (by omega)]
    · by_cases h2 : b < a
      · rw [if_neg h1, if_pos h2] at h; cases h
      · rw [if_neg h1, if_neg h2] at h
        by_cases h3 : b < c
        · rw [if_pos (by omega)]
        · by_cases h4 : c < b
          · rw [if_neg h3, if_pos h4] at h'; cases h'
          · rw [if_neg h3, if_neg h4] at h'
            rw [if_neg (by omega), if_neg (by omega)]
            exact leS_trans r s t h h'
theorem insS_perm (x : List Nat) : ∀ l : List (List Nat), (insS x l).Perm (x :: l)
  | [] => .refl _
  | y :: r => by
    unfold insS
    split
    · exact .refl _
    · exact ((insS_perm x r).cons y).trans (.swap x y r)
theorem sortS_perm : ∀ l : List (List Nat), (sortS l).Perm l
  | [] => .refl _
  | x :: r => (insS_perm x _).trans ((sortS_perm r).cons x)
theorem insS_pw (x : List Nat) : ∀ l : List (List Nat), l.Pairwise (leS · ·) → (insS x l).Pairwise (leS · ·)
  | [], _ => by simp [insS]
  | y :: r, h => by
    unfold insS
    have h' := List.pairwise_cons.mp h
    split
    · rename_i hx
      exact List.pairwise_cons.mpr ⟨fun z hz => by
        rcases List.mem_cons.mp hz with rfl | hz
        · exact hx
        · exact leS_trans _ _ _ hx (h'.1 z hz), h⟩
    · rename_i hx
      exact List.pairwise_cons.mpr ⟨fun z hz => by
        rcases List.mem_cons.mp ((insS_perm x r).mem_iff.mp hz) with rfl | hz
        · exact (leS_total z y).elim (fun q => absurd q hx) id
        · exact h'.1 z hz, insS_pw x r h'.2⟩
theorem sortS_pw : ∀ l : List (List Nat), (sortS l).Pairwise (leS · ·)
  | [] => .nil
  | x :: r => insS_pw x _ (sortS_pw r)
theorem sortS_uniq {l m : List (List Nat)} (h : m.Perm l) (p : m.Pairwise (leS · ·)) : m = sortS l :=
  (h.trans (sortS_perm l).symm).eq_of_pairwise (fun a b _ _ h1 h2 => leS_anti a b h1 h2) p (sortS_pw l)
theorem risingS_pw : ∀ (x : Str) (l : List Str), PyProof.Rows.risingS x l = true → (x :: l).Pairwise fun a b => leS a.cps.toList b.cps.toList = true
  | x, [], _ => by simp
  | x, y :: r, h => by
    have h := Bool.and_eq_true_iff.mp (show (!ltCps y.cps.toList x.cps.toList && PyProof.Rows.risingS y r) = true from h)
    have ih := risingS_pw y r h.2
    have e : leS x.cps.toList y.cps.toList = true := by
      have e := h.1
      rw [PyProof.Rows.ltCps_eq, leS_lt, Bool.not_not] at e
      exact e
    refine List.pairwise_cons.mpr ⟨fun z hz => ?_, ih⟩
    rcases List.mem_cons.mp hz with rfl | hz
    · exact e
    · exact leS_trans _ _ _ e ((List.pairwise_cons.mp ih).1 z hz)
theorem sortS_of {ss : List (List Nat)} {ys : List Str} (hp : ys.Perm (ss.map toStr)) (hs : PyProof.Rows.sortedS ys = true) : ys = (sortS ss).map toStr := by
  have pw : ys.Pairwise fun a b => leS a.cps.toList b.cps.toList = true := by
    cases ys with
    | nil => exact .nil
    | cons y r => exact risingS_pw y r hs
  have e1 : (ys.map fun y => y.cps.toList).Pairwise (leS · ·) := List.pairwise_map.mpr pw
  have e2 : (ys.map fun y => y.cps.toList).Perm ss := by
    have := hp.map fun y : Str => y.cps.toList
    rw [List.map_map] at this
    have e3 : (ss.map ((fun y : Str => y.cps.toList) ∘ toStr)) = ss := by
      have : ((fun y : Str => y.cps.toList) ∘ toStr) = id := by funext x; simp [toStr]
      rw [this, List.map_id]
    rw [e3] at this
    exact this
  have e4 := sortS_uniq e2 e1
  rw [← e4, List.map_map]
  have : (toStr ∘ fun y : Str => y.cps.toList) = id := by funext x; simp [toStr]
  rw [this, List.map_id]
/-- sorted of a list of texts, any number of them -/
theorem cr_sortedSA : CallR X (.builtin "sorted") (fun xs H Q => ∃ (a : Addr) (ss : List Str), xs = [.ref a] ∧ SqL X.K H a (ss.map V.str) ∧ ∀ ys p, ys.Perm ss → PyProof.Rows.sortedS ys = true → H p = none → Q (.ref p) (upd H p (.lst (ys.map V.str)))) := by
  intro pins s σ H vs us Q I r h
  obtain ⟨a, xs, rfl, hs, q⟩ := h
  obtain ⟨its, rv, hl, hz⟩ := I.list hs
  rw [Vals.ref1 r]
  refine PyProof.Rows.sorted_strsAny hl.isList rv.strs (by rw [← rv.length]; exact hz) fun out ys h1 h2 h3 => ?_
  obtain ⟨ep, he'⟩ := PyProof.Rows.sortedAll_at s.heap its out
  have hlen : (ys.map V.str).length ≤ sizeLine := by rw [List.length_map, h2.length_eq]; rw [List.length_map] at hz; exact hz
  exact ⟨.ref _, upd H (s.heap.objs.size + 1) (.lst (ys.map V.str)), I.laid (t' := s.toks) (fun _ _ => PyProof.Rows.sortedAll_old) (Nat.le_succ _) ⟨hlen, out.toList, ep, vals_of_strs h1, he'⟩, rfl, q ys _ h2 h3 (I.hok.fresh (Nat.le_succ _))⟩
theorem ints_at : ∀ {us : List Value} {ks : List Int}, us.length = ks.length → (∀ (j : Nat) (v : Value), us[j]? = some v → ∃ (x : Int) (t : Tok), ks[j]? = some x ∧ v = Value.int x t) → IntsAre us ks
  | [], [], _, _ => .nil
  | u :: us, k :: ks, hl, h => by
    obtain ⟨x, t, e1, e2⟩ := h 0 u rfl
    have e1' : k = x := Option.some.inj e1
    subst e1'
    subst e2
    refine .cons _ _ (ints_at (by simpa using hl) fun j v e => ?_)
    obtain ⟨x, t, a, b⟩ := h (j + 1) v (by simpa using e)
    exact ⟨x, t, by simpa using a, b⟩
  | [], _ :: _, hl, _ => by simp at hl
  | _ :: _, [], hl, _ => by simp at hl
/-- sorted of a dict, its keys ints, or texts -/
theorem call_sortedDA (hcalm : X.calm = true) : CallR X (.builtin "sorted") (fun xs H Q => ∃ (a : Addr) (kvs : List (Key × V)), xs = [.ref a] ∧ Rd H a (.dK kvs) ∧
    ((∃ ks : List Int, kvs.map (·.1) = ks.map Sum.inl ∧ ∀ (ys : List Int) p, ys.Perm ks → ys.Pairwise (· ≤ ·) → H p = none → Q (.ref p) (upd H p (.lst (ys.map V.int)))) ∨
     ∃ ks : List Str, kvs.map (·.1) = ks.map Sum.inr ∧ ∀ (ys : List Str) p, ys.Perm ks → PyProof.Rows.sortedS ys = true → H p = none → Q (.ref p) (upd H p (.lst (ys.map V.str))))) := by
  intro pins s σ H xs us Q I r q
  obtain ⟨a, kvs, ex, hd, q⟩ := q
  subst ex
  obtain ⟨u, eu, rx⟩ := vals1 r
  subst eu
  cases rx
  obtain ⟨z, lo, vs, rel, dd⟩ := dk_rd I.hok hd
  obtain ⟨ep, hat⟩ := dd.dictAt
  have h16 : vs.length ≤ sizeLine := by rw [← rel.length]; exact z
  refine Calls.call_function_entry PyProof.Rows.kind_sorted PyProof.Rows.plain_sorted PyProof.Rows.entry_sorted (PyProof.Rows.args_sorted1 _) ?_
  unfold Builtin.«sorted»
  refine wpAny_bind (m := checkCount "sorted" 1 1 _) (wpAny_pure ?_)
  refine wpAny_bind (PySem.W.kdu_collect (A := X.A.in1) (PySem.W.kdl_dict (knd := mixKind X.prog X.w) (kvs := vs) (ep := ep) lo) (I.ok.hd hcalm) hat h16 fun h' tk acc hk hacc => ?_)
  have hal : acc.toList.length = vs.length := by rw [Array.length_toList, hacc.1]
  have I1 : Inv X pins σ H { s with heap := h', toks := tk } := I.kept hk
  refine wpAny_bind (wpAny_newList ?_ (by rw [hal]; exact h16))
  have hoL : (h'.push (seqObj "list" acc.toList.toArray 0)).get? h'.objs.size = some (seqObj "list" acc.toList.toArray 0) := Heap.get?_push_size _ rfl
  show wpAny _ _ _ _ _ { s with heap := h'.push (seqObj "list" acc.toList.toArray 0), toks := tk }
  have fin : ∀ {st' : Array Keyed} {ys : List V} , Vals ys ((st').map (·.2)).toList → ys.length = vs.length → (∀ p, H p = none → Q (.ref p) (upd H p (.lst ys))) →
      EP X pins σ Q (.ref h'.objs.size) { s with heap := PyProof.Rows.sortedHeap (h'.push (seqObj "list" acc.toList.toArray 0)) h'.objs.size acc.toList (st'.map (·.2)), toks := tk } := fun {st' ys} hv hl q => by
    obtain ⟨e', he'⟩ := PyProof.Rows.sortedHeap_at (vs := acc.toList) (out := st'.map (·.2)) hoL
    refine ⟨.ref h'.objs.size, upd H h'.objs.size (.lst ys), I1.laid (t' := tk) (fun b u e => ?_) (Nat.le_refl _)
      (show ObjOk X.prog X.w _ _ _ (.lst ys) from ⟨by rw [hl]; exact h16, (st'.map (·.2)).toList, e', hv, by rw [Array.toArray_toList]; exact he'⟩), rfl, q _ (I1.hok.fresh (Nat.le_refl _))⟩
    have hb : b < h'.objs.size := Heap.lt_size e
    rw [PyProof.Rows.sortedHeap_old (Nat.ne_of_lt hb) (by rw [size_push']; exact Nat.lt_succ_of_lt hb)]
    exact Heap.get?_push_of_some _ e
  rcases q with ⟨ks, hks, q⟩ | ⟨ks, hks, q⟩
  · have hkeys : vs.map (·.1) = ks.map Sum.inl := rel.keys.symm.trans hks
    have hl : vs.length = ks.length := by
      have e := congrArg List.length hkeys
      rw [List.length_map, List.length_map] at e
      exact e
    have hS : IntsAre acc.toList ks := ints_at (hal.trans hl) fun j v e => by
      obtain ⟨k, x, e1, e2⟩ := hacc.2 j v (by rw [← Array.getElem?_toList]; exact e)
      have e3 : (vs.map (·.1))[j]? = some k := by rw [List.getElem?_map, e1]; all_goals rfl
      rw [hkeys, List.getElem?_map] at e3
      cases e4 : ks[j]? with
      | none => rw [e4] at e3; cases e3
      | some y =>
        rw [e4] at e3
        have e5 : Sum.inl y = k := Option.some.inj e3
        subst e5
        obtain ⟨t, ev⟩ := Value.isInt_shape (k := y) (v := v) e2
        exact ⟨y, t, rfl, ev⟩
    refine wpAny_bind (wpAny_holding (wpAny_call_entry PyProof.Rows.slot_list_sort ⟨_, hoL, rfl⟩ PyProof.Rows.entry_list_sort
      (PyProof.Rows.list_sort_treeKAny PyProof.Rows.intKind_oneLt (s := { s with heap := h'.push (seqObj "list" acc.toList.toArray 0), toks := tk }) hoL hS.keysOfInt (fun v₁ v₂ rest e => PyProof.Rows.keyKind_ints (by rw [← e]; exact hS)) (by rw [hal]; exact h16) fun st' hp hs => ⟨_, rfl, ?_⟩)
      (PyProof.Rows.args_list_sort _)))
    obtain ⟨ys, g1, g2, g3⟩ := PyProof.Rows.sorted_out hS hp (PyProof.Rows.sortedTo_of_int hs)
    exact wpAny_pure ⟨_, rfl, fin (vals_of_ints g1) (by rw [List.length_map, g2.length_eq, hl]) fun p hp => q ys p g2 g3 hp⟩
  · have hkeys : vs.map (·.1) = ks.map Sum.inr := rel.keys.symm.trans hks
    have hl : vs.length = ks.length := by
      have e := congrArg List.length hkeys
      rw [List.length_map, List.length_map] at e
      exact e
    have hS : StrsAre acc.toList ks := strs_at (hal.trans hl) fun j v e => by
      obtain ⟨k, x, e1, e2⟩ := hacc.2 j v (by rw [← Array.getElem?_toList]; exact e)
      have e3 : (vs.map (·.1))[j]? = some k := by rw [List.getElem?_map, e1]; all_goals rfl
      rw [hkeys, List.getElem?_map] at e3
      cases e4 : ks[j]? with
      | none => rw [e4] at e3; cases e3
      | some y =>
        rw [e4] at e3
        have e5 : Sum.inr y = k := Option.some.inj e3
        subst e5
        obtain ⟨t, ev⟩ := Value.isStrOf_shape (x := y) (v := v) e2
        exact ⟨y, t, rfl, ev⟩
    refine wpAny_bind (wpAny_holding (wpAny_call_entry PyProof.Rows.slot_list_sort ⟨_, hoL, rfl⟩ PyProof.Rows.entry_list_sort
      (PyProof.Rows.list_sort_treeKAny PyProof.Rows.strKind_oneLt (s := { s with heap := h'.push (seqObj "list" acc.toList.toArray 0), toks := tk }) hoL hS.keysOf (fun v₁ v₂ rest e => PyProof.Rows.keyKind_strs (by rw [← e]; exact hS)) (by rw [hal]; exact h16) fun st' hp hs => ⟨_, rfl, ?_⟩)
      (PyProof.Rows.args_list_sort _)))
    obtain ⟨ys, g1, g2, g3⟩ := PyProof.Rows.sorted_out_str hS hp hs
    exact wpAny_pure ⟨_, rfl, fin (vals_of_strs g1) (by rw [List.length_map, g2.length_eq, hl]) fun p hp => q ys p g2 g3 hp⟩
theorem key_ints {K : PySem.W.Frag} {p : Ph} : ∀ {kvs : List (D × D)} {ps : List (Key × V)} {ns : List Int}, FzKV K p kvs ps → intsOf (kvs.map (·.1)) = some ns → ps.map (·.1) = ns.map Sum.inl
  | [], ps, ns, h, e => by
    rw [show ps = [] from h]
    obtain rfl : [] = ns := Option.some.inj e
    rfl
  | (k, d) :: r, ps, ns, h, e => by
    obtain ⟨q, v, qs, rfl, hk, z, t⟩ := h
    cases k <;> simp only [intsOf, List.map_cons, reduceCtorEq] at e
    rename_i i
    cases q' : intsOf (r.map (·.1)) with
    | none => rw [q'] at e; cases e
    | some ms =>
      rw [q'] at e
      obtain rfl : i :: ms = ns := Option.some.inj e
      obtain rfl : Sum.inl i = q := Option.some.inj hk
      rw [List.map_cons, List.map_cons, key_ints t q']
theorem key_strs {K : PySem.W.Frag} {p : Ph} : ∀ {kvs : List (D × D)} {ps : List (Key × V)} {ns : List (List Nat)}, FzKV K p kvs ps → strsOf (kvs.map (·.1)) = some ns → ps.map (·.1) = (ns.map toStr).map Sum.inr
  | [], ps, ns, h, e => by
    rw [show ps = [] from h]
    obtain rfl : [] = ns := Option.some.inj e
    rfl
  | (k, d) :: r, ps, ns, h, e => by
    obtain ⟨q, v, qs, rfl, hk, z, t⟩ := h
    cases k <;> simp only [strsOf, List.map_cons, reduceCtorEq] at e
    rename_i i
    cases q' : strsOf (r.map (·.1)) with
    | none => rw [q'] at e; cases e
    | some ms =>
      rw [q'] at e
      obtain rfl : i :: ms = ns := Option.some.inj e
      obtain rfl : Sum.inr (toStr i) = q := Option.some.inj hk
      rw [List.map_cons, List.map_cons, List.map_cons, key_strs t q']
theorem cr_sorted (hcalm : X.calm = true) : CallR X (.builtin "sorted") (rBlt X.K (bltP .sorted)) := by
  intro pins s σ H xs us Q I r h
  obtain ⟨p, ds, R, rfl, lab, al, hb, q⟩ := h
  change sortedP ds R at hb
  unfold sortedP at hb
  split at hb
  · obtain ⟨v, _, rfl, ⟨a, vs, rfl, z, f⟩, rfl⟩ := al
    rcases hb with ⟨ns, e, hb⟩ | ⟨ss, e, hb⟩
    · obtain ⟨_, e2⟩ := ints_an f e
      refine cr_sortedI pins s σ _ _ us Q I r ⟨a, ns, rfl, .inl (e2 ▸ z), fun ns' c h1 h2 hc => ?_⟩
      rw [sortI_uniq h1 h2]
      have n := new_lst hc (fzInts (K := X.K) (p := p) (sortI ns))
      exact q _ _ _ hb n.1 n.2
    · obtain ⟨_, e2⟩ := strs_an f e
      refine cr_sortedSA pins s σ _ _ us Q I r ⟨a, ss.map toStr, rfl, .inl (e2 ▸ z), fun ys c h1 h2 hc => ?_⟩
      rw [sortS_of h1 h2]
      have n := new_lst hc (fzStrs (K := X.K) (p := p) (sortS ss))
      exact q _ _ _ hb n.1 n.2
  · obtain ⟨v, _, rfl, ⟨a, vs, rfl, z, f⟩, rfl⟩ := al
    rcases hb with ⟨ns, e, hb⟩ | ⟨ss, e, hb⟩
    · refine call_sortedDA hcalm pins s σ _ _ us Q I r ⟨a, vs, rfl, z, .inl ⟨ns, key_ints f e, fun ns' c h1 h2 hc => ?_⟩⟩
      rw [sortI_uniq h1 h2]
      have n := new_lst hc (fzInts (K := X.K) (p := p) (sortI ns))
      exact q _ _ _ hb n.1 n.2
    · refine call_sortedDA hcalm pins s σ _ _ us Q I r ⟨a, vs, rfl, z, .inr ⟨ss.map toStr, key_strs f e, fun ys c h1 h2 hc => ?_⟩⟩
      rw [sortS_of h1 h2]
      have n := new_lst hc (fzStrs (K := X.K) (p := p) (sortS ss))
      exact q _ _ _ hb n.1 n.2
  · exact hb.elim
end
end Pv

set_option autoImplicit false
set_option linter.all false
set_option Elab.async false
set_option maxRecDepth 100000
set_option exponentiation.threshold 4000
namespace Pv
open PySem PySem.Spec PyProof.Rows L2
/-! ### repr -/
theorem log2_small {i : Int} (h : i.natAbs < 10 ^ 50) : i.natAbs.log2 < 1920 := by
  by_cases h0 : i.natAbs = 0
  · rw [h0]; decide
  · exact (Nat.log2_lt h0).mpr (Nat.lt_trans h (by decide))
mutual
theorem rsz_ok : ∀ (d : D) (n : Nat), rsz d n ≤ 16777216 → plain d n = true ∧ (toPy d).showable = true ∧ (toPy d).shown.length ≤ rsz d n
  | .non, n, h => ⟨rfl, rfl, Nat.le_refl 4⟩
  | .bl b, n, h => ⟨rfl, rfl, by
      show (toPy (.bl b)).shown.length ≤ 5
      cases b <;> decide⟩
  | .int i, n, h => by
    have e : rsz (.int i) n = if i.natAbs < 10 ^ 50 then 52 else 100000000 := rfl
    rw [e] at h ⊢
    split at h
    · rename_i hi
      rw [if_pos hi]
      refine ⟨rfl, decide_eq_true (log2_small hi), ?_⟩
      show (Str.ofString (toString i)).length ≤ 52
      have := int_text_length_le10 (a := i) (k := 50) (by decide) hi
      rw [PySem.ofString_length]; omega
    · omega
  | .str s, n, h => by
    have e : rsz (.str s) n = if s.all (· < 1114112) then 10 * s.length + 2 else 100000000 := rfl
    rw [e] at h ⊢
    split at h
    · rename_i hs
      rw [if_pos hs]
      refine ⟨hs, rfl, ?_⟩
      show (reprText (toStr s)).length ≤ _
      have := StrLaws.reprText_len (toStr s) fun c hc => by
        have hc : c ∈ s := by simpa [toStr] using hc
        have := List.all_eq_true.mp hs c hc
        have := of_decide_eq_true this
        omega
      rw [toStr_len] at this
      exact this
    · omega
  | .tup l, 0, h => absurd h (by show ¬ 100000000 ≤ 16777216; decide)
  | .lst l, 0, h => absurd h (by show ¬ 100000000 ≤ 16777216; decide)
  | .tup l, n + 1, h => by
    have e : rsz (.tup l) (n + 1) = rszL l n + 3 := rfl
    rw [e] at h ⊢
    obtain ⟨a, b, c⟩ := rszL_ok l n (by omega)
    refine ⟨a, b, ?_⟩
    show (tupleText (PyData.shownAll (toPyL l))).length ≤ _
    have := tupleText_len_le (PyData.shownAll (toPyL l))
    omega
  | .lst l, n + 1, h => by
    have e : rsz (.lst l) (n + 1) = rszL l n + 3 := rfl
    rw [e] at h ⊢
    obtain ⟨a, b, c⟩ := rszL_ok l n (by omega)
    refine ⟨a, b, ?_⟩
    show (listText (PyData.shownAll (toPyL l))).length ≤ _
    have := listText_len_le (PyData.shownAll (toPyL l))
    omega
  | .dic l, n, h => absurd h (by show ¬ 100000000 ≤ 16777216; decide)
  | .ref _, n, h => absurd h (by show ¬ 100000000 ≤ 16777216; decide)
  | .fn _, n, h => absurd h (by show ¬ 100000000 ≤ 16777216; decide)
  | .rep _, n, h => absurd h (by show ¬ 100000000 ≤ 16777216; decide)
theorem rszL_ok : ∀ (l : List D) (n : Nat), rszL l n ≤ 16777216 → plainL l n = true ∧ PyData.showableAll (toPyL l) = true ∧ ((PyData.shownAll (toPyL l)).map (·.length)).sum + 2 * (PyData.shownAll (toPyL l)).length ≤ rszL l n
  | [], n, h => ⟨rfl, rfl, Nat.le_refl 0⟩
  | d :: r, n, h => by
    have e : rszL (d :: r) n = rsz d n + 2 + rszL r n := rfl
    rw [e] at h ⊢
    obtain ⟨a, b, c⟩ := rsz_ok d n (by omega)
    obtain ⟨a', b', c'⟩ := rszL_ok r n (by omega)
    refine ⟨?_, ?_, ?_⟩
    · show (plain d n && plainL r n) = true
      rw [a, a']; rfl
    · show ((toPy d).showable && PyData.showableAll (toPyL r)) = true
      rw [b, b']; rfl
    · show (((toPy d).shown :: PyData.shownAll (toPyL r)).map (·.length)).sum + 2 * ((toPy d).shown :: PyData.shownAll (toPyL r)).length ≤ _
      rw [List.map_cons, List.sum_cons, List.length_cons]
      omega
end
section
variable {X : Cx}
theorem cr_repr (hg : X.A.guards = some []) (hu : X.A.units + 70 < cLine) : CallR X (.builtin "repr") (rBlt X.K (bltP .repr)) := by
  intro pins s σ H xs us Q I r h
  obtain ⟨p, ds, R, rfl, lab, al, hb, q⟩ := h
  change reprP ds R at hb
  unfold reprP at hb
  split at hb
  · rename_i d
    obtain ⟨v, _, rfl, e, rfl⟩ := al
    obtain ⟨hz, hb⟩ := hb
    obtain ⟨hp, hs, hl⟩ := rsz_ok d 60 hz
    have hl : (toPy d).shown.length ≤ sizeLine := Nat.le_trans hl (by rw [sizeLine_eq]; exact hz)
    obtain ⟨u, rfl, ru⟩ := vals1 r
    have fin : ∀ t h' tk, (∀ b o, s.heap.get? b = some o → h'.get? b = some o) → EP X pins σ Q (.str (toPy d).shown t) { s with heap := h', toks := tk } := fun t h' tk k =>
      ⟨.str (toPy d).shown, p.H, I.kept k, ⟨t, rfl⟩, q _ p _ hb .refl rfl⟩
    have ref : ∀ a, u = .ref a → wpAny (model X.prog X.w) X.A (call (.builtin "repr") [u]) (EP X pins σ Q) X.xe s := fun a ea => by
      subst ea
      obtain ⟨as, rd⟩ := Dp.reads I _ v _ (dpA_of e hp) ru
      have hd : (toPy d).depth ≤ 60 := (canLay_of d 60 hp).2
      exact repr_of_reads' rd hs (PyData.noDict_hsm (PyData.hasDict_of_canLay _ (canLay_of d 60 hp).1)) hg (by omega) (fun _ _ h => h) (fun h' t tk k => fin t h' tk k) hl
    cases d with
    | non =>
      obtain rfl : v = .non := e
      obtain rfl : u = .none := ru
      exact PySem.P.repr_of_none (fin _ _ _ fun _ _ h => h)
    | bl b =>
      obtain rfl : v = .bl b := e
      obtain rfl : u = .bool b := ru
      refine PySem.P.repr_of_bool ?_
      have f := fin s.toks s.heap (s.toks + 1) fun _ _ h => h
      cases b <;> exact f
    | int i =>
      obtain rfl : v = .int i := e
      obtain ⟨t, rfl⟩ := ru
      have hi : i.natAbs.log2 < 1920 := of_decide_eq_true hs
      exact PySem.P.repr_of_int hi (fin _ _ _ fun _ _ h => h)
    | str x =>
      obtain rfl : v = .str _ := e
      obtain ⟨t, rfl⟩ := ru
      exact PySem.P.repr_of_str (fin _ _ _ fun _ _ h => h) hl
    | tup l =>
      obtain ⟨a, vs, rfl, _⟩ := id e
      exact ref a ru
    | lst l =>
      obtain ⟨a, vs, rfl, _⟩ := id e
      exact ref a ru
    | dic l => cases hp
    | ref n => cases hp
    | fn n => cases hp
    | rep n => cases hp
  · exact hb.elim
end
end Pv

set_option autoImplicit false
set_option linter.all false
set_option Elab.async false
set_option maxRecDepth 100000
namespace Pv
open PySem PySem.Spec PyProof.Rows L2
section
variable {K : PySem.W.Frag} {p p' : Ph}
def isC : D → Bool
  | .lst _ => true
  | .dic _ => true
  | _ => false
theorem Ow.cases {o : Own} {N : Hp} {d : D} {v : V} (h : Ow K p o N d v) : (isC d = false ∧ Fz K p d v) ∨ ∃ a, v = .ref a ∧ p.W a = some o ∧ p.H a ≠ none ∧ N a = none := by
  cases d with
  | lst l => obtain ⟨a, vs, e, ⟨w, q, n⟩, f⟩ := h; exact .inr ⟨a, e, w, (by rw [q]; exact fun z => nomatch z), n⟩
  | dic l => obtain ⟨a, vs, e, ⟨w, q, n⟩, f⟩ := h; exact .inr ⟨a, e, w, (by rw [q]; exact fun z => nomatch z), n⟩
  | _ => exact .inl ⟨rfl, h⟩
theorem Ow.atC {o : Own} {N : Hp} {d : D} {a : Addr} (h : Ow K p o N d (.ref a)) (c : isC d = true) : p.W a = some o ∧ p.H a ≠ none ∧ N a = none := by
  rcases h.cases with ⟨c', _⟩ | ⟨b, e, h⟩
  · rw [c] at c'; cases c'
  · cases e; exact h
theorem Ow.to {o o' : Own} {N N' : Hp} {d : D} {a : Addr} (h : Ow K p o N d (.ref a)) (c : isC d = true) (s : Le p p') (w : p'.W a = some o') (hh : p'.H a = p.H a) (n : N' a = none) : Ow K p' o' N' d (.ref a) := by
  cases d with
  | lst l => obtain ⟨b, vs, e, ⟨_, q, _⟩, f⟩ := h; cases e; exact ⟨a, vs, rfl, ⟨w, hh.trans q, n⟩, FzL.le s _ _ f⟩
  | dic l => obtain ⟨b, vs, e, ⟨_, q, _⟩, f⟩ := h; cases e; exact ⟨a, vs, rfl, ⟨w, hh.trans q, n⟩, FzKV.le s _ _ f⟩
  | _ => cases c
theorem FsR.le {n : Nat} (s : Le p p') (k : ∀ a u f, p.W a = some (.fld n f) → p.H a = some u → p'.W a = some (.fld n f) ∧ p'.H a = some u) : ∀ {fs : List (List Nat × Nat × D)} {ps : List (Key × V)}, FsR K p n fs ps → FsR K p' n fs ps
  | [], ps, h => h
  | (f, l, d) :: r, ps, h => by
    obtain ⟨v, qs, e1, z, t⟩ := h
    refine ⟨v, qs, e1, ?_, FsR.le s k t⟩
    cases l with
    | zero => exact Fz.le s _ _ z
    | succ l => exact Ow.le s (fun a u w q => k a u f w q) (fun _ _ h => h) z
theorem Ow.of_fz {o : Own} {N : Hp} {d : D} {v : V} (hc : isC d = false) (h : Fz K p d v) : Ow K p o N d v := by
  cases d <;> first | exact h | cases hc
/-- the members of an object that is being made: frozen, or each alone -/
def FsP (K : PySem.W.Frag) (p : Ph) : Hp → List (List Nat × Nat × D) → List V → Prop
  | _, [], vs => vs = []
  | N, (_, l, d) :: r, vs => ∃ v ws N', vs = v :: ws ∧ ((l = 0 ∧ Fz K p d v) ∨ (l = 1 ∧ isC d = false ∧ Fz K p d v) ∨ (l = 1 ∧ Ow K p .tmp N d v ∧ isC d = true ∧ ∃ a, v = .ref a ∧ N' a ≠ none)) ∧ (∀ a, N a ≠ none → N' a ≠ none) ∧ FsP K p N' r ws
theorem FsP.step (s : Step p p') : ∀ {N : Hp} {fs : List (List Nat × Nat × D)} {vs : List V}, FsP K p N fs vs → FsP K p' N fs vs
  | N, [], vs, h => h
  | N, (f, l, d) :: r, vs, h => by
    obtain ⟨v, ws, N', e, z, i1, t⟩ := h
    refine ⟨v, ws, N', e, ?_, i1, FsP.step s t⟩
    rcases z with ⟨e, z⟩ | ⟨e, c, z⟩ | ⟨e, z, q⟩
    · exact .inl ⟨e, Fz.le s.le _ _ z⟩
    · exact .inr (.inl ⟨e, c, Fz.le s.le _ _ z⟩)
    · exact .inr (.inr ⟨e, Ow.le s.le (fun a u w q => let ⟨x, y⟩ := s.keep a u q (by rw [w]; rfl); ⟨y.trans w, x⟩) (fun _ _ h => h) z, q⟩)
theorem FsP.len : ∀ {N : Hp} {fs : List (List Nat × Nat × D)} {vs : List V}, FsP K p N fs vs → fs.length = vs.length
  | N, [], vs, h => by rw [show vs = [] from h]; rfl
  | N, (f, l, d) :: r, vs, h => by
    obtain ⟨v, ws, N', rfl, z, i1, t⟩ := h
    simp [FsP.len t]
end
section
variable {X : Cx} {N : Hp} {z : Ev} {pos p2 : Pos} {a b c e k v : Expr} {ea eb ec ek ev : E} {es vs : List Expr} {ks : List (Option Expr)} {ees : List E} {fs : List (List Nat × E)} {kvs : List (E × E)}
/-- the members of a new object -/
def PFs (X : Cx) (N : Hp) (z : Ev) (pos : Pos) (keys : List (Option Expr)) (values : List Expr) (fs : List (List Nat × E)) : Prop :=
  (keys.all (·.isSome) = true ∧ keys.length = values.length) ∧ ∃ trs, PPs X pos keys values trs ∧ ∀ (σ : L2.St) (p : Ph) (env : Env) (μ : Store) (Po : List (List Nat × Nat × D) → Env → Store → Prop) (Q : List (V × V) → Hp → Prop),
    SR X.K N p env μ σ → wpF z.C z.G z.X fs env μ Po →
    (∀ xs env' μ' p' ws, Po xs env' μ' → xs.map (·.1) = fs.map (·.1) → SR X.K N p' env' μ' σ → Step p p' → FsP X.K p' p.H xs ws → Q ((xs.map fun x => V.str (toStr x.1)).zip ws) p'.H) → tPairs trs σ p.H Q
theorem pfs_nil : PFs X N z pos [] [] [] := ⟨⟨rfl, rfl⟩, [], pps_nil, fun σ p env μ Po Q sr hw post => post [] env μ p [] hw rfl sr .refl rfl⟩
theorem pfs_cons {x : Str} {f : List Nat} {j : Nat} {kp : Pos} (hx : x.cps.toList = f) (hv : PE X v (tE X.K N z ev)) (hr : PFs X N z pos ks vs fs) : PFs X N z pos (some (.Constant (.str x) j kp) :: ks) (v :: vs) ((f, ev) :: fs) := by
  obtain ⟨⟨h1, h2⟩, trs, h3, h4⟩ := hr
  refine ⟨⟨by simp [h1], by simp [h2]⟩, _, pps_cons pe_str hv h3, fun σ p env μ Po Q sr hw post => ?_⟩
  have ex : x = toStr f := by rw [← hx]
  have keep : ∀ {p1 p2 : Ph} {d : D} {w : V}, Step p1 p2 → Ow X.K p1 .tmp p.H d w → Ow X.K p2 .tmp p.H d w := fun s z => Ow.le s.le (fun a u w q => let ⟨x, y⟩ := s.keep a u q (by rw [w]; rfl); ⟨y.trans w, x⟩) (fun _ _ h => h) z
  refine ⟨p, env, μ, _, rfl, sr, hw, fun kd d env1 μ1 p1 w h1 sr1 st1 vr1 => ?_⟩
  have dom : ∀ a, p.H a ≠ none → p1.H a ≠ none := st1.dom
  cases kd with
  | fz =>
    refine h4 σ p1 env1 μ1 _ _ sr1 h1 fun xs env2 μ2 p2 ws h2 hn sr2 st2 fp => ?_
    refine post ((f, 0, d) :: xs) env2 μ2 p2 (w :: ws) h2 (by simp [hn]) sr2 (st1.trans st2) ⟨w, ws, p1.H, rfl, .inl ⟨rfl, Fz.le st2.le _ _ vr1⟩, dom, fp⟩ |> fun h => ?_
    rw [ex]; exact h
  | fresh =>
    refine h4 σ p1 env1 μ1 _ _ sr1 h1 fun xs env2 μ2 p2 ws h2 hn sr2 st2 fp => ?_
    have o1 : Ow X.K p1 .tmp p.H d w := vr1
    have o2 : (1 = 0 ∧ Fz X.K p2 d w) ∨ (1 = 1 ∧ isC d = false ∧ Fz X.K p2 d w) ∨ (1 = 1 ∧ Ow X.K p2 .tmp p.H d w ∧ isC d = true ∧ ∃ a, w = .ref a ∧ p1.H a ≠ none) := by
      rcases o1.cases with ⟨c, z⟩ | ⟨a, e, _, q, _⟩
      · exact .inr (.inl ⟨rfl, c, Fz.le st2.le _ _ z⟩)
      · cases hc : isC d with
        | true => exact .inr (.inr ⟨rfl, keep st2 o1, rfl, a, e, q⟩)
        | false => exact .inr (.inl ⟨rfl, rfl, by cases d <;> first | exact Fz.le st2.le _ _ o1 | cases hc⟩)
    have h := post ((f, 1, d) :: xs) env2 μ2 p2 (w :: ws) h2 (by simp [hn]) sr2 (st1.trans st2) ⟨w, ws, p1.H, rfl, o2, dom, fp⟩
    rw [ex]; exact h
  | bor i =>
    obtain ⟨env2, p2, h2, hh, lo, sr2, st2, fz⟩ := esc_ok sr1 st1 vr1 h1
    rw [← hh]
    refine h4 σ p2 env2 μ1 _ _ sr2 h2 fun xs env3 μ3 p3 ws h3 hn sr3 st3 fp => ?_
    refine post ((f, 0, d) :: xs) env3 μ3 p3 (w :: ws) h3 (by simp [hn]) sr3 (st2.trans st3) ⟨w, ws, p2.H, rfl, .inl ⟨rfl, Fz.le st3.le _ _ fz⟩, st2.dom, fp⟩ |> fun h => ?_
    rw [ex]; exact h
  | borF n g => exact h1.elim
/-- every owned thing of a new object is given to it -/
theorem give_fs {K : PySem.W.Frag} {n : Nat} : ∀ {fs : List (List Nat × Nat × D)} {vs : List V} {N : Hp} {p : Ph}, FsP K p N fs vs →
    ∃ W' : WM, (∀ a, (N a ≠ none ∨ p.W a ≠ some .tmp) → W' a = p.W a) ∧ (∀ a, p.W a = none → W' a = none) ∧ (∀ a o, W' a = some o → p.W a = some o ∨ (p.W a = some .tmp ∧ ∃ f, o = .fld n f)) ∧
      FsR K ⟨p.θ, W', p.H⟩ n fs (((fs.map fun x => toStr x.1).map Sum.inr).zip vs)
  | [], vs, N, p, h => by
    rw [show vs = [] from h]
    exact ⟨p.W, fun _ _ => rfl, fun _ h => h, fun _ _ h => .inl h, rfl⟩
  | (f, l, d) :: r, vs, N, p, h => by
    obtain ⟨v, ws, N', rfl, zz, i1, t⟩ := h
    obtain ⟨W1, w1, w2, w3, w4⟩ := give_fs (n := n) t
    have le1 : Le p ⟨p.θ, W1, p.H⟩ := ⟨fun _ _ h => h, fun a u w q => ⟨w2 a w, q⟩⟩
    rcases zz with ⟨rfl, z⟩ | ⟨rfl, c, z⟩ | ⟨rfl, z, c, a, rfl, q⟩
    · exact ⟨W1, fun a ha => w1 a (ha.imp (i1 a) id), w2, w3, v, _, rfl, Fz.le le1 _ _ z, w4⟩
    · exact ⟨W1, fun a ha => w1 a (ha.imp (i1 a) id), w2, w3, v, _, rfl, Ow.of_fz c (Fz.le le1 _ _ z), w4⟩
    · -- the thing at a is given to this member
      have wa := z.atC c
      have e1 : W1 a = some .tmp := (w1 a (.inl q)).trans wa.1
      have le2 : Le ⟨p.θ, W1, p.H⟩ ⟨p.θ, updW W1 a (some (.fld n f)), p.H⟩ := ⟨fun _ _ h => h, fun b u w h => by
        have ne : b ≠ a := fun e => by
          have w : W1 b = none := w
          rw [e, e1] at w; cases w
        exact ⟨(updW_ne ne).trans w, h⟩⟩
      refine ⟨updW W1 a (some (.fld n f)), fun b hb => ?_, fun b hb => ?_, fun b o hb => ?_, .ref a, _, rfl, ?_, ?_⟩
      · have ne : b ≠ a := fun e => by
          subst e
          rcases hb with hb | hb
          · exact hb wa.2.2
          · exact hb wa.1
        rw [updW_ne ne]
        exact w1 b (hb.imp (i1 b) id)
      · have ne : b ≠ a := fun e => by subst e; rw [wa.1] at hb; cases hb
        rw [updW_ne ne]; exact w2 b hb
      · by_cases ne : b = a
        · subst ne
          rw [updW_same] at hb
          cases hb
          exact .inr ⟨wa.1, f, rfl⟩
        · rw [updW_ne ne] at hb; exact w3 b o hb
      · exact z.to c (le1.trans le2) updW_same rfl rfl
      · refine FsR.le le2 (fun b u g w h => ?_) w4
        have ne : b ≠ a := fun e => by
          have w : W1 b = some (.fld n g) := w
          rw [e, e1] at w; cases w
        exact ⟨(updW_ne ne).trans w, h⟩
/-- names keep what they hold where labels other than the passing ones stay -/
theorem VS.re {K : PySem.W.Frag} {N : Hp} {p p' : Ph} (le : Le p p') (ws : ∀ a o u, p.W a = some o → p.H a = some u → o ≠ .tmp → o ≠ .far → p'.W a = some o ∧ p'.H a = some u) {i l : Nat} {d : D} {v : V} (h : VS K N p i l d v) : VS K N p' i l d v := by
  match l, h with
  | 0, h => exact Fz.le le _ _ h
  | 1, h => exact Ow.le (o := .slot i) le (fun a u w q => ws a _ u w q (fun e => nomatch e) fun e => nomatch e) (fun _ _ h => h) h
  | l + 2, h =>
    have rd : ∀ a u, (p.W a = none ∨ p.W a = some .lent) → Rd p.H a u → (p'.W a = none ∨ p'.W a = some .lent) ∧ Rd p'.H a u := fun a u w r => by
      rcases w with w | w
      · obtain ⟨x, y⟩ := le.rd w r
        exact ⟨.inl x, y⟩
      · rcases r with r | ⟨o, r⟩
        · obtain ⟨x, y⟩ := ws a _ _ w r (fun e => nomatch e) fun e => nomatch e
          exact ⟨.inr x, .inl y⟩
        · obtain ⟨x, y⟩ := ws a _ _ w r (fun e => nomatch e) fun e => nomatch e
          exact ⟨.inr x, .inr ⟨o, y⟩⟩
    have h : Ct K p d v := h
    show Ct K p' d v
    cases d with
    | lst x => obtain ⟨a, vs, e, ⟨w, q⟩, f⟩ := h; obtain ⟨w', q'⟩ := rd a _ w q; exact ⟨a, vs, e, ⟨w', q'⟩, FzL.le le _ _ f⟩
    | dic x => obtain ⟨a, vs, e, ⟨w, q⟩, f⟩ := h; obtain ⟨w', q'⟩ := rd a _ w q; exact ⟨a, vs, e, ⟨w', q'⟩, FzKV.le le _ _ f⟩
    | ref n => exact Fz.le (K := K) le (.ref n) v h
    | tup x => exact Fz.le (K := K) le (.tup x) v h
    | _ => exact h
theorem ObR.re {K : PySem.W.Frag} {p p' : Ph} (le : Le p p') (ws : ∀ a o u, p.W a = some o → p.H a = some u → o ≠ .tmp → o ≠ .far → p'.W a = some o ∧ p'.H a = some u) {n : Nat} {o : Obj} {a : Addr} (h : ObR K p n o a) : ObR K p' n o a := by
  obtain ⟨h1, h2, h3, ps, h4, h5⟩ := h
  obtain ⟨x, y⟩ := ws a _ _ h2 h4 (fun e => nomatch e) fun e => nomatch e
  exact ⟨h1, x, h3, ps, y, FsR.le le (fun b u f w q => ws b _ u w q (fun e => nomatch e) fun e => nomatch e) h5⟩
theorem mergeK_nodup : ∀ (more kvs : List (Key × V)), ((kvs ++ more).map (·.1)).Nodup → mergeK kvs more = kvs ++ more
  | [], kvs, _ => by simp [mergeK]
  | (k, v) :: r, kvs, h => by
    unfold mergeK
    rw [List.foldl_cons]
    have e : putK kvs k v = kvs ++ [(k, v)] := by
      unfold putK
      rw [if_neg]
      intro q
      obtain ⟨x, hx, ex⟩ := List.any_eq_true.mp q
      have ex : x.1 = k := of_decide_eq_true ex
      rw [List.map_append, List.nodup_append] at h
      exact h.2.2 x.1 (List.mem_map_of_mem hx) k (by simp) ex
    rw [e]
    have ih := mergeK_nodup r (kvs ++ [(k, v)]) (by simpa using h)
    unfold mergeK at ih
    rw [ih]
    simp
theorem pv_state (h : PFs X N z pos ks vs fs) (h0 : ks ≠ []) (h15 : ks.length ≤ 15) (hf : fs.length ≤ 15) (hnd : (fs.map (·.1)).Nodup) : PE X (.Dict ks vs pos) (tE X.K N z (.state fs)) := by
  obtain ⟨⟨hall, hl⟩, trs, hp, hs⟩ := h
  refine peImp (pe_disp hp hall hl h0 h15) fun σ H Q h => ?_
  obtain ⟨p, env, μ, Po, rfl, sr, hw, post⟩ := h
  intro b hb
  let p1 : Ph := ⟨p.θ, updW p.W b (some .far), upd p.H b (.dK [])⟩
  have ext1 : Ext p p1 := ⟨rfl, fun c o q => ⟨(upd_ne (ne_of_none q hb)).trans q, updW_ne (ne_of_none q hb)⟩, fun c o q => by
    by_cases hc : c = b
    · subst hc; exact .inr ⟨_, upd_same, trivial⟩
    · exact .inl ((updW_ne hc).symm.trans q)⟩
  refine hs σ p1 env μ _ _ (sr.ext ext1) hw fun xs env' μ' p2 ws hpo hn sr2 st2 fp => ?_
  have b1 : p1.H b = some (.dK []) := upd_same
  have wb1 : p1.W b = some .far := updW_same
  obtain ⟨b2, wb2⟩ := st2.keep b _ b1 (by rw [wb1]; rfl)
  rw [wb1] at wb2
  refine ⟨b2, ((xs.map fun x => toStr x.1).map Sum.inr).zip ws, ?_, ?_, ?_⟩
  · have : ∀ (xs : List (List Nat × Nat × D)) (ws : List V), (xs.map fun x => V.str (toStr x.1)).zip ws = (((xs.map fun x => toStr x.1).map (Sum.inr : Str → Key)).zip ws).map fun kv => (kV kv.1, kv.2) := by
      intro xs
      induction xs with
      | nil => intro ws; rfl
      | cons x r ih =>
        intro ws
        cases ws with
        | nil => rfl
        | cons w t => simp only [List.map_cons, List.zip_cons_cons, ih t]; rfl
    exact this xs ws
  · have e := congrArg List.length hn
    rw [List.length_map, List.length_map] at e
    rw [List.length_zip, List.length_map, List.length_map]
    omega
  · have hkeys : ((((xs.map fun x => toStr x.1).map (Sum.inr : Str → Key)).zip ws).map (·.1)) = (xs.map fun x => toStr x.1).map (Sum.inr : Str → Key) := by
      rw [List.map_fst_zip]
      rw [List.length_map, List.length_map, fp.len]
      exact Nat.le_refl _
    have hnd2 : ((xs.map fun x => toStr x.1).map (Sum.inr : Str → Key)).Nodup := by
      rw [List.map_map]
      have e : (xs.map (Sum.inr ∘ fun x => toStr x.1) : List Key) = (xs.map (·.1)).map fun f => (Sum.inr (toStr f) : Key) := by rw [List.map_map]; rfl
      rw [e, hn]
      exact List.Pairwise.map _ (fun a b ne e => ne (toStr_inj (Sum.inr.inj e))) hnd
    rw [mergeK_nodup _ [] (by rw [List.nil_append, hkeys]; exact hnd2), List.nil_append]
    obtain ⟨W', w1, w2, w3, w4⟩ := give_fs (n := μ'.length) fp
    let p3 : Ph := ⟨p2.θ ++ [b], updW W' b (some (.obj μ'.length)), upd p2.H b (.dK (((xs.map fun x => toStr x.1).map Sum.inr).zip ws))⟩
    have wb3 : W' b = some .far := (w1 b (.inr (by rw [wb2]; exact fun e => nomatch e))).trans wb2
    have le23 : Le p2 p3 := ⟨fun n a h => by
        show (p2.θ ++ [b])[n]? = some a
        rw [List.getElem?_append_left (List.getElem?_eq_some_iff.mp h).1]; exact h, fun a u w q => by
      have ne : a ≠ b := fun e => by rw [e, wb2] at w; cases w
      exact ⟨(updW_ne ne).trans (w2 a w), (upd_ne ne).trans q⟩⟩
    have ws23 : ∀ a o u, p2.W a = some o → p2.H a = some u → o ≠ .tmp → o ≠ .far → p3.W a = some o ∧ p3.H a = some u := fun a o u w q h1 h2 => by
      have ne : a ≠ b := fun e => by rw [e, wb2] at w; cases w; exact h2 rfl
      exact ⟨(updW_ne ne).trans ((w1 a (.inr (by rw [w]; exact fun e => h1 (Option.some.inj e)))).trans w), (upd_ne ne).trans q⟩
    have sr3 : SR X.K N p3 env' (μ' ++ [⟨"dict", xs⟩]) σ := by
      refine ⟨sr2.len, fun i l d e => ?_, ?_, fun n o e => ?_, fun a o e => ?_, fun a e => ?_⟩
      · obtain ⟨v, e1, z⟩ := sr2.slot i l d e
        exact ⟨v, e1, z.re le23 ws23⟩
      · show (p2.θ ++ [b]).length = _
        rw [List.length_append, List.length_append, sr2.st]; rfl
      · by_cases hlt : n < μ'.length
        · rw [List.getElem?_append_left hlt] at e
          obtain ⟨a, e1, z⟩ := sr2.obj n o e
          exact ⟨a, le23.th n a e1, z.re le23 ws23⟩
        · have en : n = μ'.length := by
            have := (List.getElem?_eq_some_iff.mp e).1
            rw [List.length_append] at this
            have : n < μ'.length + 1 := this
            omega
          subst en
          rw [List.getElem?_append_right (Nat.le_refl _), Nat.sub_self] at e
          cases e
          refine ⟨b, ?_, ?_, updW_same, rfl, _, upd_same, ?_⟩
          · show (p2.θ ++ [b])[μ'.length]? = some b
            rw [← sr2.st, List.getElem?_append_right (Nat.le_refl _), Nat.sub_self]; rfl
          · show (xs.map (·.1)).Nodup
            rw [hn]; exact hnd
          · refine FsR.le (p := ⟨p2.θ, W', p2.H⟩) ⟨le23.th, fun a u w q => ?_⟩ (fun a u f w q => ?_) w4
            · have ne : a ≠ b := fun e => by
                have w : W' a = none := w
                rw [e, wb3] at w; cases w
              exact ⟨(updW_ne ne).trans w, (upd_ne ne).trans q⟩
            · have ne : a ≠ b := fun e => by
                have w : W' a = some (.fld μ'.length f) := w
                rw [e, wb3] at w; cases w
              exact ⟨(updW_ne ne).trans w, (upd_ne ne).trans q⟩
      · by_cases ne : a = b
        · subst ne; exact ⟨_, upd_same, trivial⟩
        · have e : W' a = some o := (updW_ne ne).symm.trans e
          rcases w3 a o e with e | ⟨e, _⟩
          · obtain ⟨u, q, m⟩ := sr2.lab a _ e
            exact ⟨u, (upd_ne ne).trans q, m⟩
          · obtain ⟨u, q, m⟩ := sr2.lab a _ e
            exact ⟨u, (upd_ne ne).trans q, m⟩
      · by_cases ne : a = b
        · subst ne; show upd p2.H a _ a ≠ none; rw [upd_same]; exact fun z => nomatch z
        · show upd p2.H b _ a ≠ none
          rw [upd_ne ne]; exact sr2.dom a e
    have st3 : Step p p3 := by
      refine ⟨fun n a h => le23.th n a (st2.th n a h), fun a o q t => ?_, fun a q => ?_⟩
      · obtain ⟨q1, e1⟩ := ext1.keep a o q
        obtain ⟨q2, e2⟩ := st2.keep a o q1 (by rw [e1]; exact t)
        have ne : a ≠ b := ne_of_none q hb
        refine ⟨(upd_ne ne).trans q2, (updW_ne ne).trans ((w1 a (.inl (by rw [q1]; exact fun z => nomatch z))).trans (e2.trans e1))⟩
      · by_cases ne : a = b
        · subst ne; show upd p2.H a _ a ≠ none; rw [upd_same]; exact fun z => nomatch z
        · show upd p2.H b _ a ≠ none
          rw [upd_ne ne]; exact st2.dom a (ext1.step.dom a q)
    refine post .fz (.ref μ'.length) env' (μ' ++ [⟨"dict", xs⟩]) p3 (.ref b) hpo sr3 st3 ⟨b, ?_, rfl⟩
    show (p2.θ ++ [b])[μ'.length]? = some b
    rw [← sr2.st, List.getElem?_append_right (Nat.le_refl _), Nat.sub_self]; rfl
end
end Pv

set_option autoImplicit false
set_option linter.all false
set_option Elab.async false
set_option maxRecDepth 100000
namespace Pv
open PySem PySem.Spec PyProof.Rows L2
section
variable {K : PySem.W.Frag} {N : Hp} {p p' : Ph} {env : Env} {μ : Store} {σ : L2.St}
theorem le_put {a : Addr} {o : HO} {w : Own} (hw : p.W a = some w) : Le p ⟨p.θ, p.W, upd p.H a o⟩ := ⟨fun _ _ h => h, fun b u x q => by
  have ne : b ≠ a := fun e => by rw [e, hw] at x; cases x
  exact ⟨x, (upd_ne ne).trans q⟩⟩
theorem step_put {a : Addr} {o : HO} (hw : stay (p.W a) = false) : Step p ⟨p.θ, p.W, upd p.H a o⟩ := ⟨fun _ _ h => h, fun b u q t => by
  have ne : b ≠ a := fun e => by rw [e, hw] at t; cases t
  exact ⟨(upd_ne ne).trans q, rfl⟩, fun b q => by
  by_cases ne : b = a
  · subst ne; show upd p.H b o b ≠ none; rw [upd_same]; exact fun z => nomatch z
  · show upd p.H a o b ≠ none
    rw [upd_ne ne]; exact q⟩
/-- what a name owns is changed -/
theorem SR.put (sr : SR K N p env μ σ) {i : Nat} {a : Addr} {o : HO} {d' : D} (hi : i < env.length) (hw : p.W a = some (.slot i)) (hm : Mut (some o)) (hv : σ[i]? = some (some (.ref a))) (hn : VS K N ⟨p.θ, p.W, upd p.H a o⟩ i 1 d' (.ref a)) :
    SR K N ⟨p.θ, p.W, upd p.H a o⟩ (env.set i (some (1, d'))) μ σ ∧ Step p ⟨p.θ, p.W, upd p.H a o⟩ ∧ Le p ⟨p.θ, p.W, upd p.H a o⟩ := by
  have le := le_put (o := o) hw
  have ne : ∀ b w, p.W b = some w → w ≠ .slot i → b ≠ a := fun b w q h e => by rw [e, hw] at q; cases q; exact h rfl
  refine ⟨⟨by rw [List.length_set]; exact sr.len, fun j l x e => ?_, sr.st, fun n ob e => ?_, fun b w q => ?_, fun b q => ?_⟩, step_put (by rw [hw]; rfl), le⟩
  · by_cases hj : j = i
    · subst hj
      rw [List.getElem?_set_self hi] at e
      cases e
      exact ⟨.ref a, hv, hn⟩
    · rw [List.getElem?_set_ne (Ne.symm hj)] at e
      obtain ⟨v, e1, z⟩ := sr.slot j l x e
      refine ⟨v, e1, ?_⟩
      match l, z with
      | 0, z => exact Fz.le le _ _ z
      | 1, z => exact Ow.le (o := .slot j) le (fun b u w q => ⟨w, (upd_ne (ne b _ w fun e => by cases e; exact hj rfl)).trans q⟩) (fun _ _ h => h) z
      | l + 2, z =>
        have z : Ct K p x v := z
        show Ct K _ x v
        have rd : ∀ b u, (p.W b = none ∨ p.W b = some .lent) → Rd p.H b u → Rd (upd p.H a o) b u := fun b u w r => by
          have nb : b ≠ a := fun e => by rw [e, hw] at w; rcases w with w | w <;> cases w
          exact r.imp (fun r => (upd_ne nb).trans r) fun ⟨q, r⟩ => ⟨q, (upd_ne nb).trans r⟩
        cases x with
        | lst y => obtain ⟨b, vs, e, ⟨w, q⟩, f⟩ := z; exact ⟨b, vs, e, ⟨w, rd b _ w q⟩, FzL.le le _ _ f⟩
        | dic y => obtain ⟨b, vs, e, ⟨w, q⟩, f⟩ := z; exact ⟨b, vs, e, ⟨w, rd b _ w q⟩, FzKV.le le _ _ f⟩
        | ref n => exact Fz.le (K := K) le (.ref n) v z
        | tup y => exact Fz.le (K := K) le (.tup y) v z
        | _ => exact z
  · obtain ⟨b, e1, h1, h2, h3, ps, h4, h5⟩ := sr.obj n ob e
    exact ⟨b, e1, h1, h2, h3, ps, (upd_ne (ne b _ h2 fun e => nomatch e)).trans h4, FsR.le le (fun c u f w q => ⟨w, (upd_ne (ne c _ w fun e => nomatch e)).trans q⟩) h5⟩
  · by_cases hb : b = a
    · subst hb; exact ⟨o, upd_same, hm⟩
    · obtain ⟨u, q', m⟩ := sr.lab b w q
      exact ⟨u, (upd_ne hb).trans q', m⟩
  · by_cases hb : b = a
    · subst hb; show upd p.H b o b ≠ none; rw [upd_same]; exact fun z => nomatch z
    · show upd p.H a o b ≠ none
      rw [upd_ne hb]; exact sr.dom b q
theorem SR.owns (sr : SR K N p env μ σ) {i : Nat} {l : List D} (e : env[i]? = some (some (1, .lst l))) : ∃ a vs, σ[i]? = some (some (.ref a)) ∧ p.W a = some (.slot i) ∧ p.H a = some (.lst vs) ∧ N a = none ∧ FzL K p l vs := by
  obtain ⟨v, e1, a, vs, rfl, ⟨w, q, n⟩, f⟩ := sr.slot i 1 _ e
  exact ⟨a, vs, e1, w, q, n, f⟩
theorem SR.ownsD (sr : SR K N p env μ σ) {i : Nat} {l : List (D × D)} (e : env[i]? = some (some (1, .dic l))) : ∃ a vs, σ[i]? = some (some (.ref a)) ∧ p.W a = some (.slot i) ∧ p.H a = some (.dK vs) ∧ N a = none ∧ FzKV K p l vs := by
  obtain ⟨v, e1, a, vs, rfl, ⟨w, q, n⟩, f⟩ := sr.slot i 1 _ e
  exact ⟨a, vs, e1, w, q, n, f⟩
end
section
variable {X : Cx}
/-! ### methods that change a list -/
def muId : Mu → String
  | .append => "list.append" | .pop => "list.pop" | .extend => "list.extend"
def rMu (K : PySem.W.Frag) (m : Mu) : V → List V → Hp → VK → Prop := fun x xs H Q => ∃ p a l vs ds R, p.H = H ∧ x = .ref a ∧ H a = some (.lst vs) ∧ FzL K p l vs ∧ FzL K p ds xs ∧ mutP m l ds R ∧ p.W a ≠ none ∧
  ∀ l' r vs' v, R l' r → FzL K p l' vs' → Fz K p r v → Q v (upd H a (.lst vs'))
theorem FzL.dropLast {K : PySem.W.Frag} {p : Ph} {ds : List D} {vs : List V} (h : FzL K p ds vs) : FzL K p ds.dropLast vs.dropLast := by
  rw [List.dropLast_eq_take, List.dropLast_eq_take, h.length]
  exact FzL.take _ h
theorem ixN_seq' {n k : Nat} {i : Int} (h : Pv.ixN n i = some k) : seqIndex? i n = some k := (L2.ixN_seq (show L2.ixN n i = some k from h)).1
theorem mt_mu (m : Mu) : MtR X (muId m) (rMu X.K m) := by
  intro pins s σ H x xs v us Q I rx rxs h
  obtain ⟨p, a, l, vs, ds, R, rfl, rfl, hH, fl, fx, hb, nw, q⟩ := h
  unfold mutP at hb
  split at hb
  · obtain ⟨y, _, rfl, z, rfl⟩ := fx
    exact mt_append pins s σ _ _ _ v us Q I rx rxs ⟨a, vs, y, rfl, rfl, hH, by rw [← fl.length]; exact hb.1, q _ _ _ _ hb.2 (fl.append ⟨y, [], rfl, z, rfl⟩) rfl⟩
  · obtain rfl : xs = [] := fx
    obtain ⟨d, e, hb⟩ := hb
    rw [fl.length] at e
    obtain ⟨w, ew, zw⟩ := fl.get e
    exact mt_pop pins s σ _ _ _ v us Q I rx rxs ⟨a, vs, w, rfl, rfl, hH, ew, q _ _ _ _ hb fl.dropLast zw⟩
  · obtain ⟨y, _, rfl, z, rfl⟩ := fx
    obtain rfl : y = .int _ := z
    obtain ⟨n, d, e1, e2, hr, hb⟩ := hb
    obtain ⟨w, ew, zw⟩ := fl.get e2
    rw [fl.length] at e1
    exact mt_popAt pins s σ _ _ _ v us Q I rx rxs ⟨a, vs, _, n, w, rfl, rfl, hH, by have := hr.1; omega, by have := hr.2; omega, ixN_seq' e1, ew, q _ _ _ _ hb (fl.erase n) zw⟩
  · obtain ⟨y, _, rfl, ⟨b, zs, rfl, ⟨wb, hb'⟩, fb⟩, rfl⟩ := fx
    have ne : b ≠ a := fun e => nw (e ▸ wb)
    exact mt_extend pins s σ _ _ _ v us Q I rx rxs ⟨a, b, vs, zs, rfl, rfl, hH, hb', by rw [← fl.length, ← fb.length]; exact hb.1, q _ _ _ _ hb.2 (fl.append fb) rfl⟩
  · exact hb.elim
theorem slot_mu (m : Mu) : ∃ name : Str, Slot "list" name (muId m) ∧ typeOf (.builtin (muId m)) = pure (.type "method_descriptor") := by
  cases m
  · exact ⟨"append", PySem.F.slot_list_append, PySem.F.type_list_append⟩
  · exact ⟨"pop", PySem.F.slot_list_pop, PySem.F.type_list_pop⟩
  · exact ⟨"extend", PySem.F.slot_list_extend, PySem.F.type_list_extend⟩
variable {N : Hp} {z : Ev} {e : Expr} {es : List Expr} {ea : E} {ees : List E} {name : Str} {apos cpos npos : Pos}
theorem pv_mut {m : Mu} {i : Nat} {x : Str} (slot : Slot "list" name (muId m)) (hty : typeOf (.builtin (muId m)) = pure (.type "method_descriptor")) (hN : X.N[i]? = some x) (hv : Vis X.env.scope x) (ha : PA X (e :: es) (tLp X.K N z ees))
    (hbase : attributeBase (.Name x npos) name X.env (eval (.Name x npos) X.env) = eval (.Name x npos) X.env)
    (hfew : ((backTo cpos (starEach (e :: es) X.env)).all (fun x => !x.1) && (backToKw cpos (keywordEach [] X.env)).all (fun x => x.1.isSome)
      && decide ((e :: es).length + ([] : List Keyword).length + (if ([] : List Keyword).isEmpty then 0 else 1) < 30)) = true)
    (hline : (apos.endLine == cpos.line) = true) (hs : starEach (e :: es) X.env = (false, eval e X.env) :: starEach es X.env) (hplain : (backTo cpos (starEach es X.env)).any (·.1) = false)
    (hd : (x == ("__debug__" : Str)) = false := by decide) (hcd : (x == ("__classdict__" : Str)) = false := by decide) :
    PE X (.Call (.Attribute (.Name x npos) name apos) (e :: es) [] cpos) (tE X.K N z (.mut m i ees)) := by
  refine peImp (pe_bm PySem.F.plainAttrs_list slot hty (mt_mu m) (pe_var hN hv hd hcd) ha hbase hfew hline hs hplain) fun σ H Q h => ?_
  obtain ⟨p, env, μ, Po, rfl, sr, ⟨l0, e0, hw⟩, post⟩ := h
  obtain ⟨a, vs0, ev, wa, ha0, na, f0⟩ := sr.owns e0
  refine ⟨.ref a, ev, .inl ⟨rfl, vs0, .inl (.inl ha0)⟩, p, env, μ, _, rfl, sr, hw, fun ds env1 μ1 p1 ws h1 hl sr1 st1 fl => ?_⟩
  obtain ⟨l, e1, h1⟩ := h1
  obtain ⟨b, vs, ev', wb, hb, nb, f⟩ := sr1.owns e1
  rw [ev] at ev'; cases ev'
  refine ⟨p1, a, l, vs, ds, _, rfl, rfl, hb, f, fl, h1, (by rw [wb]; exact fun z => nomatch z), fun l' r vs' v hr fl' fr => ?_⟩
  have le := le_put (o := .lst vs') wb
  have hi : i < env1.length := (List.getElem?_eq_some_iff.mp e1).1
  obtain ⟨s1, s2, s3⟩ := sr1.put (o := .lst vs') (d' := .lst l') hi wb trivial ev ⟨a, vs', rfl, ⟨wb, upd_same, nb⟩, FzL.le le _ _ fl'⟩
  exact post .fz r _ μ1 ⟨p1.θ, p1.W, upd p1.H a (.lst vs')⟩ v hr s1 (st1.trans s2) (Fz.le s3 _ _ fr)
theorem pv_mut0 {m : Mu} {i : Nat} {x : Str} (slot : Slot "list" name (muId m)) (hty : typeOf (.builtin (muId m)) = pure (.type "method_descriptor")) (hN : X.N[i]? = some x) (hv : Vis X.env.scope x)
    (hbase : attributeBase (.Name x npos) name X.env (eval (.Name x npos) X.env) = eval (.Name x npos) X.env) (hline : (apos.endLine == cpos.line) = true)
    (hd : (x == ("__debug__" : Str)) = false := by decide) (hcd : (x == ("__classdict__" : Str)) = false := by decide) :
    PE X (.Call (.Attribute (.Name x npos) name apos) [] [] cpos) (tE X.K N z (.mut m i [])) := by
  refine peImp (pe_bm0 PySem.F.plainAttrs_list slot hty (mt_mu m) (pe_var hN hv hd hcd) hbase hline) fun σ H Q h => ?_
  obtain ⟨p, env, μ, Po, rfl, sr, ⟨l0, e0, hw⟩, post⟩ := h
  obtain ⟨l, e1, h1⟩ := hw
  obtain ⟨a, vs, ev, wb, hb, nb, f⟩ := sr.owns e1
  refine ⟨.ref a, ev, .inl ⟨rfl, vs, .inl (.inl hb)⟩, p, a, l, vs, [], _, rfl, rfl, hb, f, rfl, h1, (by rw [wb]; exact fun z => nomatch z), fun l' r vs' v hr fl' fr => ?_⟩
  have le := le_put (o := .lst vs') wb
  have hi : i < env.length := (List.getElem?_eq_some_iff.mp e1).1
  obtain ⟨s1, s2, s3⟩ := sr.put (o := .lst vs') (d' := .lst l') hi wb trivial ev ⟨a, vs', rfl, ⟨wb, upd_same, nb⟩, FzL.le le _ _ fl'⟩
  exact post .fz r _ μ ⟨p.θ, p.W, upd p.H a (.lst vs')⟩ v hr s1 s2 (Fz.le s3 _ _ fr)
end
end Pv

set_option autoImplicit false
set_option linter.all false
set_option Elab.async false
set_option maxRecDepth 100000
namespace Pv
open PySem PySem.Spec PyProof.Rows L2
section
variable {K : PySem.W.Frag} {N : Hp} {p p' p0 : Ph} {env : Env} {μ : Store} {σ : L2.St}
/-! ### what is given to names -/
theorem SR.set0 (sr : SR K N p env μ σ) {i : Nat} {d : D} {v : V} (hi : i < env.length) (h : Fz K p d v) : SR K N p (env.set i (some (0, d))) μ (σ.set i (some v)) := by
  refine ⟨by rw [List.length_set, List.length_set]; exact sr.len, fun j l x e => ?_, sr.st, sr.obj, sr.lab, sr.dom⟩
  by_cases hj : j = i
  · subst hj
    rw [List.getElem?_set_self hi] at e
    cases e
    exact ⟨v, List.getElem?_set_self (by rw [← sr.len]; exact hi), h⟩
  · rw [List.getElem?_set_ne (Ne.symm hj)] at e
    rw [List.getElem?_set_ne (Ne.symm hj)]
    exact sr.slot j l x e
theorem SR.wipe (sr : SR K N p env μ σ) (dead : List Nat) : SR K N p (wipeE env dead) μ σ := by
  induction dead with
  | nil => exact sr
  | cons v r ih =>
    refine ⟨by show ((wipeE env r).set v none).length = _; rw [List.length_set]; exact ih.len, fun j l x e => ?_, sr.st, sr.obj, sr.lab, sr.dom⟩
    have e : ((wipeE env r).set v none)[j]? = some (some (l, x)) := e
    by_cases hj : j = v
    · subst hj
      by_cases hl : j < (wipeE env r).length
      · rw [List.getElem?_set_self hl] at e; cases e
      · rw [List.getElem?_eq_none (by rw [List.length_set]; omega)] at e; cases e
    · rw [List.getElem?_set_ne (Ne.symm hj)] at e
      exact ih.slot j l x e
/-- a thing that is no one's is given to a name -/
theorem SR.set1 (sr : SR K N p env μ σ) (st : Step p0 p) {i : Nat} {d : D} {v : V} (hi : i < env.length) (h : Ow K p .tmp p0.H d v) (hN : ∀ a, N a ≠ none → p0.H a ≠ none) :
    ∃ p', p'.H = p.H ∧ Le p p' ∧ SR K N p' (env.set i (some (1, d))) μ (σ.set i (some v)) ∧ Step p0 p' := by
  have nN : ∀ a, p0.H a = none → N a = none := fun a e => by
    cases q : N a with
    | none => rfl
    | some u => exact absurd e (hN a (by rw [q]; exact fun z => nomatch z))
  rcases h.cases with ⟨c, z⟩ | ⟨a, rfl, wa, ha, na⟩
  · refine ⟨p, rfl, Loos.refl.le, ?_, st⟩
    refine ⟨by rw [List.length_set, List.length_set]; exact sr.len, fun j l x e => ?_, sr.st, sr.obj, sr.lab, sr.dom⟩
    by_cases hj : j = i
    · subst hj
      rw [List.getElem?_set_self hi] at e
      cases e
      exact ⟨v, List.getElem?_set_self (by rw [← sr.len]; exact hi), Ow.of_fz c z⟩
    · rw [List.getElem?_set_ne (Ne.symm hj)] at e
      rw [List.getElem?_set_ne (Ne.symm hj)]
      exact sr.slot j l x e
  · by_cases hc : isC d = true
    · let p' : Ph := ⟨p.θ, updW p.W a (some (.slot i)), p.H⟩
      have le : Le p p' := ⟨fun _ _ h => h, fun b u w q => by
        have ne : b ≠ a := fun e => by rw [e, wa] at w; cases w
        exact ⟨(updW_ne ne).trans w, q⟩⟩
      have ws : ∀ b o u, p.W b = some o → p.H b = some u → o ≠ .tmp → o ≠ .far → p'.W b = some o ∧ p'.H b = some u := fun b o u w q h1 h2 => by
        have ne : b ≠ a := fun e => by rw [e, wa] at w; cases w; exact h1 rfl
        exact ⟨(updW_ne ne).trans w, q⟩
      refine ⟨p', rfl, le, ⟨by rw [List.length_set, List.length_set]; exact sr.len, fun j l x e => ?_, sr.st, fun n o e => ?_, fun b o e => ?_, sr.dom⟩, ⟨st.th, fun b u q t => ?_, st.dom⟩⟩
      · by_cases hj : j = i
        · subst hj
          rw [List.getElem?_set_self hi] at e
          cases e
          exact ⟨.ref a, List.getElem?_set_self (by rw [← sr.len]; exact hi), h.to hc le updW_same rfl (nN a na)⟩
        · rw [List.getElem?_set_ne (Ne.symm hj)] at e
          rw [List.getElem?_set_ne (Ne.symm hj)]
          obtain ⟨w, e1, z⟩ := sr.slot j l x e
          exact ⟨w, e1, z.re le ws⟩
      · obtain ⟨b, e1, z⟩ := sr.obj n o e
        exact ⟨b, e1, z.re le ws⟩
      · by_cases hb : b = a
        · subst hb
          exact sr.lab b _ wa
        · exact sr.lab b o ((updW_ne hb).symm.trans e)
      · obtain ⟨x, y⟩ := st.keep b u q t
        have ne : b ≠ a := fun e => by rw [e, na] at q; cases q
        exact ⟨x, (updW_ne ne).trans y⟩
    · -- not a list, not a dict: frozen
      have hz : Fz K p d (.ref a) := by
        cases d <;> first | exact h | exact absurd rfl hc
      refine ⟨p, rfl, Loos.refl.le, ?_, st⟩
      refine ⟨by rw [List.length_set, List.length_set]; exact sr.len, fun j l x e => ?_, sr.st, sr.obj, sr.lab, sr.dom⟩
      by_cases hj : j = i
      · subst hj
        rw [List.getElem?_set_self hi] at e
        cases e
        exact ⟨.ref a, List.getElem?_set_self (by rw [← sr.len]; exact hi), Ow.of_fz (by cases d <;> first | rfl | exact absurd rfl hc) hz⟩
      · rw [List.getElem?_set_ne (Ne.symm hj)] at e
        rw [List.getElem?_set_ne (Ne.symm hj)]
        exact sr.slot j l x e
theorem give_ok {i : Nat} {k : Kd} {d : D} {v : V} {R : Env → Prop} (sr : SR K N p env μ σ) (st : Step p0 p) (hi : i < env.length) (hN : ∀ a, N a ≠ none → p0.H a ≠ none) (h : VR K p0 p env μ σ k d v) (g : give i k d env R) :
    ∃ env' p', R env' ∧ p'.H = p.H ∧ Le p p' ∧ SR K N p' env' μ (σ.set i (some v)) ∧ Step p0 p' := by
  match k, h, g with
  | .fz, h, g => exact ⟨_, p, g, rfl, Loos.refl.le, sr.set0 hi h, st⟩
  | .fresh, h, g =>
    obtain ⟨p', e, l, s, t⟩ := sr.set1 st hi h hN
    exact ⟨_, p', g, e, l, s, t⟩
  | .bor j, h, g =>
    have g : esc (.bor j) env fun env => R (env.set i (some (0, d))) := g
    obtain ⟨env1, p1, g1, e, lo, sr1, st1, fz⟩ := esc_ok sr st h g
    exact ⟨_, p1, g1, e, lo.le, sr1.set0 (by rw [sr1.len, ← sr.len]; exact hi) fz, st1⟩
  | .borF n f, h, g => exact g.elim
end
mutual
/-- the names of a target -/
def varsT : T → List Nat
  | .var i => [i]
  | .tup ts => varsTs ts
def varsTs : List T → List Nat
  | [] => []
  | t :: ts => varsT t ++ varsTs ts
end
/-- the slots but for some are as they were -/
def But (vs : List Nat) (σ σ' : L2.St) : Prop := σ'.length = σ.length ∧ ∀ j, j ∉ vs → σ'[j]? = σ[j]?
section
variable {X : Cx} {N : Hp} {z : Ev} {pos : Pos} {e : Expr} {ts : List Expr} {t : T} {tts : List T}
def gT (K : PySem.W.Frag) (N : Hp) (t : T) : TG := fun v σ H Q => ∃ p0 p env μ k d R, p.H = H ∧ SR K N p env μ σ ∧ Step p0 p ∧ (∀ a, N a ≠ none → p0.H a ≠ none) ∧ VR K p0 p env μ σ k d v ∧ giveT t k d env R ∧
  ∀ env' p' σ', R env' → SR K N p' env' μ σ' → Step p0 p' → p'.H = p.H → Le p p' → But (varsT t) σ σ' → Q σ' p'.H
def gL (K : PySem.W.Frag) (N : Hp) (ts : List T) : TGs := fun vs σ H Q => ∃ p0 p env μ ds R, p.H = H ∧ SR K N p env μ σ ∧ Step p0 p ∧ (∀ a, N a ≠ none → p0.H a ≠ none) ∧ FzL K p ds vs ∧ giveL ts ds env R ∧
  ∀ env' p' σ', R env' → SR K N p' env' μ σ' → Step p0 p' → p'.H = p.H → Le p p' → But (varsTs ts) σ σ' → Q σ' p'.H
theorem pgImp {e : Expr} {t t' : TG} (h : PG X e t) (hi : ∀ v σ H Q, t' v σ H Q → t v σ H Q) : PG X e t' := ⟨fun pins s σ H v u Q I r q => h.run pins s σ H v u Q I r (hi v σ H Q q)⟩
theorem pgsImp {es : List Expr} {t t' : TGs} (h : PGs X es t) (hi : ∀ v σ H Q, t' v σ H Q → t v σ H Q) : PGs X es t' := ⟨fun pins s σ H v u Q I r q => h.run pins s σ H v u Q I r (hi v σ H Q q)⟩
theorem pvg_name {i : Nat} {x : Str} (hN : X.N.Nodup) (hi : X.N[i]? = some x) (hx : Loc X.env.scope x) (hf : X.fn x = true ∨ X.env.scope.names.lookup x = some .local := by first | exact .inl rfl | exact .inr rfl | assumption) (hlen : ∀ p env μ (σ : L2.St), SR X.K N p env μ σ → σ.length = X.N.length → True := fun _ _ _ _ _ _ => trivial) :
    PG X (.Name x pos) (gT X.K N (.var i)) := by
  refine ⟨fun pins s σ H v u Q I r q => ?_⟩
  obtain ⟨p0, p, env, μ, k, d, R, rfl, sr, st, hN', vr, g, post⟩ := q
  have hil : i < env.length := by rw [sr.len, I.len]; exact (List.getElem?_eq_some_iff.mp hi).1
  obtain ⟨env', p', hr, e, le, sr', st'⟩ := give_ok sr st hil hN' vr g
  refine (pg_name hN hi hx hf).run pins s σ p.H v u Q I r ?_
  have := post env' p' _ hr sr' st' e le ⟨List.length_set, fun j hj => List.getElem?_set_ne (fun q => hj (by rw [← q]; exact List.mem_singleton.mpr rfl))⟩
  rw [e] at this
  exact this
theorem pvgs_nil : PGs X [] (gL X.K N []) := pgsImp pgs_nil fun vs σ H Q h => by
  obtain ⟨p0, p, env, μ, ds, R, rfl, sr, st, hN', fl, ⟨rfl, g⟩, post⟩ := h
  exact ⟨fl, post env p σ g sr st rfl Loos.refl.le ⟨rfl, fun _ _ => rfl⟩⟩
theorem pvgs_cons {es : List Expr} (h1 : PG X e (gT X.K N t)) (h2 : PGs X es (gL X.K N tts)) (hs : (assignEach (e :: es) X.env).map (·.2) = assign e X.env :: (assignEach es X.env).map (·.2) := by rfl) : PGs X (e :: es) (gL X.K N (t :: tts)) := by
  refine pgsImp (pgs_cons h1 h2 hs) fun vs σ H Q h => ?_
  obtain ⟨p0, p, env, μ, ds, R, rfl, sr, st, hN', fl, g, post⟩ := h
  obtain ⟨d, r, rfl, g⟩ := g
  obtain ⟨v, ws, rfl, fz, ft⟩ := fl
  refine ⟨v, ws, rfl, p0, p, env, μ, .fz, d, _, rfl, sr, st, hN', fz, g, fun env' p' σ' h1 sr' st' e le bt => ?_⟩
  exact ⟨p0, p', env', μ, r, _, rfl, sr', st', hN', FzL.le le _ _ ft, h1, fun env'' p'' σ'' h2 sr'' st'' e' le' bt' => post env'' p'' σ'' h2 sr'' st'' (e'.trans e) (le.trans le') ⟨bt'.1.trans bt.1, fun j hj => (bt'.2 j fun q => hj (List.mem_append_right _ q)).trans (bt.2 j fun q => hj (List.mem_append_left _ q))⟩⟩
theorem pg_or {t1 t2 : TG} (h1 : PG X e t1) (h2 : PG X e t2) : PG X e (fun v σ H Q => t1 v σ H Q ∨ t2 v σ H Q) := ⟨fun pins s σ H v u Q I r q => q.elim (h1.run pins s σ H v u Q I r) (h2.run pins s σ H v u Q I r)⟩
theorem pvg_tup {k n : Nat} (hc : X.calm = true) (h : PGs X ts (gL X.K N tts)) (hn : (assignEach ts X.env).length = n := by rfl) (hst : (assignEach ts X.env).findIdx? (·.1) = none := by rfl) (hl : tts.length = n := by rfl) : PG X (.Tuple ts k pos) (gT X.K N (.tup tts)) := by
  refine pgImp (pg_or (pg_tup hc h hn hst) (pg_lst hc h hn hst)) fun v σ H Q h => ?_
  obtain ⟨p0, p, env, μ, k, d, R, rfl, sr, st, hN', vr, ⟨l, hd, hlen, g⟩, post⟩ := h
  have an := vr.an sr
  cases d with
  | tup l' =>
    cases hd
    obtain ⟨a, vs, rfl, zz, f⟩ := an
    exact .inl ⟨a, vs, rfl, zz.elim .inr fun z => .inl z.2, by rw [← f.length, hlen, hl], p0, p, env, μ, l, R, rfl, sr, st, hN', f, g, post⟩
  | lst l' =>
    cases hd
    obtain ⟨a, vs, rfl, zz, f⟩ := an
    exact .inr ⟨a, vs, rfl, .inl zz, by rw [← f.length, hlen, hl], p0, p, env, μ, l, R, rfl, sr, st, hN', f, g, post⟩
  | _ => cases hd
end
end Pv

set_option autoImplicit false
set_option linter.all false
set_option Elab.async false
set_option maxRecDepth 100000
namespace Pv
open PySem PySem.Spec PyProof.Rows L2
section
variable {K : PySem.W.Frag} {N : Hp} {p p' p0 : Ph} {env : Env} {μ : Store} {σ : L2.St}
/-! ### what is walked -/
/-- a walk over data: at every phase behind p0 it yields the next one, or it stops -/
def Wk (K : PySem.W.Frag) (J : It) (p0 : Ph) (ds : List D) : Prop := ∀ (i : Nat) (p : Ph), Step p0 p →
  (ds.length ≤ i → J.stop i p.H) ∧ ∀ d, ds[i]? = some d → J.go i p.H ∧ ∀ x H', J.yld i p.H x H' → ∃ p', p'.H = H' ∧ Ext p p' ∧ Fz K p' d x
/-- data that stays while it is walked -/
def Sd (K : PySem.W.Frag) (p : Ph) : D → V → Prop
  | .lst l, v => ∃ a vs, v = .ref a ∧ stay (p.W a) = true ∧ Rd p.H a (.lst vs) ∧ FzL K p l vs
  | d, v => An K p d v
theorem Fz.sd : ∀ {d : D} {v : V}, Fz K p d v → Sd K p d v
  | .lst l, v, h => by obtain ⟨a, vs, e, ⟨w, h⟩, r⟩ := h; exact ⟨a, vs, e, by rw [w]; rfl, .inl h, r⟩
  | .dic l, v, h => Fz.an (d := .dic l) h
  | .non, v, h => h
  | .bl b, v, h => h
  | .int i, v, h => h
  | .str s, v, h => h
  | .tup l, v, h => h
  | .ref n, v, h => h
  | .rep d, v, h => h
  | .fn _, v, h => h
theorem escI_ok {k : Kd} {d : D} {v : V} {R : Env → Prop} (sr : SR K N p env μ σ) (st : Step p0 p) (h : VR K p0 p env μ σ k d v) (he : escI k env R) :
    ∃ env' p', R env' ∧ SR K N p' env' μ σ ∧ Step p0 p' ∧ p'.H = p.H ∧ Sd K p' d v := by
  match k, h, he with
  | .fz, h, he => exact ⟨env, p, he, sr, st, rfl, h.sd⟩
  | .fresh, h, he =>
    refine ⟨env, p, he, sr, st, rfl, ?_⟩
    have h : Ow K p .tmp p0.H d v := h
    cases d with
    | lst l => obtain ⟨a, vs, e, ⟨w, h, _⟩, r⟩ := h; exact ⟨a, vs, e, by rw [w]; rfl, .inl h, r⟩
    | dic l => exact Ow.an h
    | _ => exact h
  | .bor i, h, he =>
    obtain ⟨l, e, ev⟩ := id h
    have he' : (match env[i]? with
      | some (some (0, _)) => False
      | some (some (1, d)) => R (env.set i (some (0, d)))
      | some (some (_ + 2, _)) => R env
      | _ => False) := he
    rw [e] at he'
    cases l with
    | zero =>
      obtain ⟨env1, p1, g1, e1, lo, sr1, st1, fz⟩ := esc_ok (R := R) sr st h ⟨d, e, he'⟩
      exact ⟨env1, p1, g1, sr1, st1, e1, fz.sd⟩
    | succ l =>
      refine ⟨env, p, he', sr, st, rfl, ?_⟩
      obtain ⟨w, e1, z⟩ := sr.slot i _ _ e
      rw [ev] at e1; cases e1
      have z : Ct K p d v := z
      cases d with
      | lst l => obtain ⟨a, vs, e, ⟨w, h⟩, r⟩ := z; exact ⟨a, vs, e, by rcases w with w | w <;> rw [w] <;> rfl, h, r⟩
      | dic l => exact Ct.an z
      | _ => exact z
  | .borF n f, h, he => exact he.elim
theorem rd_step (s : Step p p') {a : Addr} {u : HO} (w : stay (p.W a) = true) (r : Rd p.H a u) : Rd p'.H a u := by
  rcases r with r | ⟨o, r⟩
  · exact .inl (s.keep a _ r w).1
  · exact .inr ⟨o, (s.keep a _ r w).1⟩
theorem wk_list {a : Addr} {l : List D} {vs : List V} (w : stay (p.W a) = true) (r : Rd p.H a (.lst vs)) (f : FzL K p l vs) : Wk K (Itl K a) p l := fun i q s => by
  have r' : SqL K q.H a vs := .inl (rd_step s w r)
  have f' : FzL K q l vs := FzL.le s.le _ _ f
  refine ⟨fun hl => ⟨vs, r', by rw [← f'.length]; exact hl⟩, fun d hd => ?_⟩
  obtain ⟨x, ex, zx⟩ := f'.get hd
  refine ⟨⟨vs, x, r', ex⟩, fun y H' hy => ?_⟩
  obtain ⟨rfl, hy⟩ := hy
  have := hy vs r'
  rw [ex] at this; cases this
  exact ⟨q, rfl, .refl, zx⟩
theorem wk_tup {a : Addr} {l : List D} {vs : List V} (z : ZT K p a vs) (f : FzL K p l vs) : Wk K (Itt K a) p l := fun i q s => by
  have r' : SqT K q.H a vs := z.elim .inr fun z => .inl (s.le.rd z.1 z.2).2
  have f' : FzL K q l vs := FzL.le s.le _ _ f
  refine ⟨fun hl => ⟨vs, r', by rw [← f'.length]; exact hl⟩, fun d hd => ?_⟩
  obtain ⟨x, ex, zx⟩ := f'.get hd
  refine ⟨⟨vs, x, r', ex⟩, fun y H' hy => ?_⟩
  obtain ⟨rfl, hy⟩ := hy
  have := hy vs r'
  rw [ex] at this; cases this
  exact ⟨q, rfl, .refl, zx⟩
theorem wk_range {lo : Int} {n : Nat} : Wk K (Itr lo n) p (rangeL lo n) := fun i q s => by
  refine ⟨fun hl => by have : (rangeL lo n).length = n := by simp [rangeL]
                       exact this ▸ hl, fun d hd => ?_⟩
  have : i < n ∧ d = .int (lo + (i : Int)) := by
    unfold rangeL at hd
    rw [List.getElem?_map] at hd
    by_cases h : i < n
    · rw [List.getElem?_range h] at hd
      exact ⟨h, (Option.some.inj hd).symm⟩
    · rw [List.getElem?_eq_none (by simpa using h)] at hd; cases hd
  refine ⟨this.1, fun x H' hy => ?_⟩
  obtain ⟨rfl, rfl⟩ := hy
  exact ⟨q, rfl, .refl, by rw [this.2]; rfl⟩
theorem wk_enum {a : Addr} {l : List D} {vs : List V} (w : stay (p.W a) = true) (r : Rd p.H a (.lst vs)) (f : FzL K p l vs) : Wk K (Ite K a) p (l.mapIdx fun n d => .tup [.int (n : Int), d]) := fun i q s => by
  have r' : SqL K q.H a vs := .inl (rd_step s w r)
  have f' : FzL K q l vs := FzL.le s.le _ _ f
  refine ⟨fun hl => ⟨vs, r', by rw [← f'.length]; simpa using hl⟩, fun d hd => ?_⟩
  rw [List.getElem?_mapIdx] at hd
  cases hl : l[i]? with
  | none => rw [hl] at hd; cases hd
  | some d0 =>
    rw [hl] at hd
    cases hd
    obtain ⟨x, ex, zx⟩ := f'.get hl
    refine ⟨⟨vs, x, r', ex⟩, fun y H' hy => ?_⟩
    obtain ⟨T, x', rfl, hT, rfl, hy⟩ := hy
    have := hy vs r'
    rw [ex] at this; cases this
    have n := new_tup (K := K) (ds := [.int (i : Int), d0]) (vs := [.int (i : Int), x]) hT ⟨_, _, rfl, rfl, _, _, rfl, zx, rfl⟩
    exact ⟨_, rfl, n.1, n.2⟩
end
section
variable {X : Cx} {N : Hp} {z : Ev} {pos : Pos} {tg e : Expr} {ea : E}
def tI (K : PySem.W.Frag) (N : Hp) (z : Ev) (it : I) : TI := fun σ H R => ∃ p env μ Po, p.H = H ∧ SR K N p env μ σ ∧ wpI z.C z.G z.X it env μ Po ∧
  ∀ ds env' μ' p' J, Po ds env' μ' → SR K N p' env' μ' σ → Step p p' → Wk K J p' ds → R J p'.H
theorem piImp {tg iter : Expr} {t t' : TI} (h : PI X tg iter t) (hi : ∀ σ H Q, t' σ H Q → t σ H Q) : PI X tg iter t' := ⟨fun pins s σ H Q I q => h.run pins s σ H Q I (hi σ H Q q)⟩
/-- a list or a tuple is walked -/
theorem pvi_seq (hl : PE X e (tE X.K N z ea)) : PI X tg e (tI X.K N z (.seq ea)) := by
  refine ⟨fun pins s σ H R I h => ?_⟩
  obtain ⟨p, env, μ, Po, rfl, sr, hw, post⟩ := h
  refine thn (hl.run pins s σ p.H (fun x H1 => ∃ a, x = .ref a ∧ ((∃ xs, SqL X.K H1 a xs ∧ R (Itl X.K a) H1) ∨ ∃ xs, SqT X.K H1 a xs ∧ R (Itt X.K a) H1)) I ⟨p, env, μ, _, rfl, sr, hw, fun k x env1 μ1 p1 v h1 sr1 st1 vr1 => ?_⟩) fun v s1 ⟨x, H1, I1, r1, q1⟩ => ?_
  · obtain ⟨l, hl, he⟩ := h1
    obtain ⟨env2, p2, h2, sr2, st2, e2, sd⟩ := escI_ok sr1 st1 vr1 he
    cases x with
    | lst l' =>
      cases hl
      obtain ⟨a, vs, rfl, w, r, f⟩ := sd
      rw [← e2]
      exact ⟨a, rfl, .inl ⟨vs, .inl r, post l env2 μ1 p2 _ h2 sr2 st2 (wk_list w r f)⟩⟩
    | tup l' =>
      cases hl
      obtain ⟨a, vs, rfl, zt, f⟩ := sd
      rw [← e2]
      exact ⟨a, rfl, .inr ⟨vs, zt.elim .inr fun z => .inl z.2, post l env2 μ1 p2 _ h2 sr2 st2 (wk_tup zt f)⟩⟩
    | _ => cases hl
  · obtain ⟨a, e, q | q⟩ := q1
    · obtain ⟨xs, hq, q⟩ := q
      subst e
      cases r1
      obtain ⟨its, rv, p, hz⟩ := I1.list hq
      refine wpAny_pyIter_list p.isList ?_
      refine ⟨s1.heap.objs.size, [s1.heap.objs.size], _, _, H1, rfl, I1.kept (t' := s1.toks) fun b o e => Heap.get?_push_of_some _ e, turn_list a _, ⟨_, Heap.get?_push_size _ rfl, rfl, rfl⟩, fun b hb => ?_, q⟩
      have e : b = s1.heap.objs.size := by simpa using hb
      subst e
      exact I1.fpOk (Nat.le_refl _) (I1.hok.fresh (Nat.le_refl _))
    · obtain ⟨xs, hq, q⟩ := q
      subst e
      cases r1
      obtain ⟨its, rv, p, hz⟩ := I1.tuple hq
      refine wpAny_pyIter_tuple (show s1.heap.IsTuple a its.toArray from p) ?_
      refine ⟨s1.heap.objs.size, [s1.heap.objs.size], _, _, H1, rfl, I1.kept (t' := s1.toks) fun b o e => Heap.get?_push_of_some _ e, turn_tuple a _, ⟨_, Heap.get?_push_size _ rfl, rfl, rfl⟩, fun b hb => ?_, q⟩
      have e : b = s1.heap.objs.size := by simpa using hb
      subst e
      exact I1.fpOk (Nat.le_refl _) (I1.hok.fresh (Nat.le_refl _))
theorem AnL.one {K : PySem.W.Frag} {p : Ph} {d : D} {vs : List V} (h : AnL K p [d] vs) : ∃ v, vs = [v] ∧ An K p d v := by
  obtain ⟨v, ws, rfl, a, rfl⟩ := h
  exact ⟨v, rfl, a⟩
theorem AnL.two {K : PySem.W.Frag} {p : Ph} {d d' : D} {vs : List V} (h : AnL K p [d, d'] vs) : ∃ v v', vs = [v, v'] ∧ An K p d v ∧ An K p d' v' := by
  obtain ⟨v, ws, rfl, a, h⟩ := h
  obtain ⟨v', rfl, a'⟩ := h.one
  exact ⟨v, v', rfl, a, a'⟩
theorem pvi_rng {a : Expr} {q : Pos} (hg : Gl X "range") (hm : X.mg "range" = none) (ha : PE X a (tE X.K N z ea)) (hs : starEach [a] X.env = [(false, eval a X.env)] := by rfl) : PI X tg (.Call (.Name "range" q) [a] [] pos) (tI X.K N z (.rng ea)) := by
  refine piImp (pi_range1 hg hm (pa_cons ha pa_nil hs) hs) fun σ H R h => ?_
  obtain ⟨p, env, μ, Po, rfl, sr, hw, post⟩ := h
  refine ⟨p, env, μ, _, rfl, sr, hw, fun k x env1 μ1 p1 v h1 sr1 st1 vr1 => ?_⟩
  obtain ⟨j, rfl, hj, h1⟩ := h1
  obtain rfl : v = .int j := vr1.an sr1
  exact ⟨_, rfl, by omega, by omega, post _ env1 μ1 p1 _ h1 sr1 st1 wk_range⟩
theorem pvi_rng2 {a b : Expr} {eb : E} {q : Pos} (hg : Gl X "range") (hm : X.mg "range" = none) (ha : PE X a (tE X.K N z ea)) (hb : PE X b (tE X.K N z eb)) (hs : starEach [a, b] X.env = [(false, eval a X.env), (false, eval b X.env)] := by rfl) (hs2 : starEach [b] X.env = [(false, eval b X.env)] := by rfl) :
    PI X tg (.Call (.Name "range" q) [a, b] [] pos) (tI X.K N z (.rng2 ea eb)) := by
  refine piImp (pi_range2 hg hm (pa_cons ha (pa_cons hb pa_nil hs2) (by rw [hs, hs2])) hs hs2) fun σ H R h => ?_
  obtain ⟨p, env, μ, Po, rfl, sr, hw, post⟩ := h
  refine ⟨p, env, μ, _, rfl, sr, hw, fun k x env1 μ1 p1 v h1 sr1 st1 vr1 => ⟨p1, env1, μ1, _, rfl, sr1, h1, fun k' y env2 μ2 p2 w h2 sr2 st2 vr2 => ?_⟩⟩
  obtain ⟨i, j, ⟨rfl, rfl⟩, hj, h2⟩ := h2
  obtain rfl : v = .int i := vr1.an sr1
  obtain rfl : w = .int j := vr2.an sr2
  exact ⟨_, _, rfl, by omega, post _ env2 μ2 p2 _ h2 sr2 (st1.trans st2) wk_range⟩
theorem pvi_enum {q tpos : Pos} {elts : List Expr} {kk : Nat} (hg : Gl X "enumerate") (hm : X.mg "enumerate" = none) (ha : PE X e (tE X.K N z ea)) (hs : starEach [e] X.env = [(false, eval e X.env)] := by rfl) : PI X (.Tuple elts kk tpos) (.Call (.Name "enumerate" q) [e] [] pos) (tI X.K N z (.enum ea)) := by
  refine piImp (pi_enum hg hm (pa_cons ha pa_nil hs) hs) fun σ H R h => ?_
  obtain ⟨p, env, μ, Po, rfl, sr, hw, post⟩ := h
  refine ⟨p, env, μ, _, rfl, sr, hw, fun k x env1 μ1 p1 v h1 sr1 st1 vr1 => ?_⟩
  obtain ⟨l, rfl, he⟩ := h1
  obtain ⟨env2, p2, h2, sr2, st2, e2, sd⟩ := escI_ok sr1 st1 vr1 he
  obtain ⟨a, vs, rfl, w, r, f⟩ := sd
  rw [← e2]
  exact ⟨a, vs, rfl, .inl r, post _ env2 μ1 p2 _ h2 sr2 st2 (wk_enum w r f)⟩
end
section
/-! ### statements -/
/-- what is returned: frozen, or alone -/
def RV (K : PySem.W.Frag) (N : Hp) (p : Ph) : Nat → D → V → Prop
  | 0, d, v => Fz K p d v
  | _, d, v => ∃ o, (o = .tmp ∨ ∃ i, o = .slot i) ∧ Ow K p o N d v
/-- the ends of a statement -/
structure EOk (K : PySem.W.Frag) (N : Hp) (p : Ph) (D : L2.Ends) (E : Pv.Ends) : Prop where
  nx : ∀ env' μ' p' σ', E.nx env' μ' → SR K N p' env' μ' σ' → Step p p' → D.nx σ' p'.H
  rt : ∀ l d μ' p' v env' σ', E.rt l d μ' → SR K N p' env' μ' σ' → Step p p' → RV K N p' l d v → D.rt v p'.H
  bk : ∀ env' μ' p' σ', E.bk env' μ' → SR K N p' env' μ' σ' → Step p p' → D.bk σ' p'.H
  ct : ∀ env' μ' p' σ', E.ct env' μ' → SR K N p' env' μ' σ' → Step p p' → D.ct σ' p'.H
  xc : E.xc = fun _ _ _ => False
theorem EOk.from {K : PySem.W.Frag} {N : Hp} {p p' : Ph} {D : L2.Ends} {E : Pv.Ends} (h : EOk K N p D E) (s : Step p p') : EOk K N p' D E :=
  ⟨fun e m q σ a b c => h.nx e m q σ a b (s.trans c), fun l d m q v e σ a b c => h.rt l d m q v e σ a b (s.trans c), fun e m q σ a b c => h.bk e m q σ a b (s.trans c), fun e m q σ a b c => h.ct e m q σ a b (s.trans c), h.xc⟩
def noX : XPost := fun _ _ _ => False
def tS (K : PySem.W.Frag) (N : Hp) (C : CallFn) (G : String → Option D) (s : S) : TS := fun D σ H => ∃ p env μ E, p.H = H ∧ SR K N p env μ σ ∧ wpS C G s E env μ ∧ EOk K N p D E
def tSs (K : PySem.W.Frag) (N : Hp) (C : CallFn) (G : String → Option D) (s : List S) : TS := fun D σ H => ∃ p env μ E, p.H = H ∧ SR K N p env μ σ ∧ wpSs C G s E env μ ∧ EOk K N p D E
variable {X : Cx} {N : Hp} {C : CallFn} {G : String → Option D} {pos p2 : Pos} {st : Stmt} {rest : List Stmt} {s : S} {r : List S} {e c tg : Expr} {ea ec : E} {t : T} {ss sa sb : List Stmt} {pa pb body : List S}
theorem psImp {st : Stmt} {t t' : TS} (h : PS X st t) (hi : ∀ D σ H, t' D σ H → t D σ H) : PS X st t' := ⟨fun pins s σ H D I q => h.run pins s σ H D I (hi D σ H q)⟩
theorem pssImp {st : List Stmt} {t t' : TS} (h : PSs X st t) (hi : ∀ D σ H, t' D σ H → t D σ H) : PSs X st t' := ⟨fun pins s σ H D I q => h.run pins s σ H D I (hi D σ H q)⟩
theorem pvs_nil : PSs X [] (tSs X.K N C G []) := pssImp pss_nil fun D σ H h => by
  obtain ⟨p, env, μ, E, rfl, sr, hw, ok⟩ := h
  exact ok.nx env μ p σ hw sr .refl
theorem pvs_cons (h1 : PS X st (tS X.K N C G s)) (h2 : PSs X rest (tSs X.K N C G r)) : PSs X (st :: rest) (tSs X.K N C G (s :: r)) := pssImp (pss_cons h1 h2) fun D σ H h => by
  obtain ⟨p, env, μ, E, rfl, sr, hw, ok⟩ := h
  exact ⟨p, env, μ, _, rfl, sr, hw, fun env' μ' p' σ' h' sr' st' => ⟨p', env', μ', E, rfl, sr', h', ok.from st'⟩, ok.rt, ok.bk, ok.ct, ok.xc⟩
theorem pvs_pass : PS X (.Pass pos) (tS X.K N C G .pass) := psImp ps_pass fun D σ H h => by
  obtain ⟨p, env, μ, E, rfl, sr, hw, ok⟩ := h
  exact ok.nx env μ p σ hw sr .refl
theorem pvs_doc {x : Str} {j : Nat} : PS X (.Expr (.Constant (.str x) j p2) pos) (tS X.K N C G .pass) := psImp ps_doc fun D σ H h => by
  obtain ⟨p, env, μ, E, rfl, sr, hw, ok⟩ := h
  exact ok.nx env μ p σ hw sr .refl
theorem pvs_brk : PS X (.Break pos) (tS X.K N C G .brk) := psImp ps_break fun D σ H h => by
  obtain ⟨p, env, μ, E, rfl, sr, hw, ok⟩ := h
  exact ok.bk env μ p σ hw sr .refl
theorem pvs_cont : PS X (.Continue pos) (tS X.K N C G .cont) := psImp ps_continue fun D σ H h => by
  obtain ⟨p, env, μ, E, rfl, sr, hw, ok⟩ := h
  exact ok.ct env μ p σ hw sr .refl
theorem pvs_expr (he : PE X e (tE X.K N ⟨C, G, noX⟩ ea)) (hs : swapsWith e none pos.line X.env = pure false := by rfl) : PS X (.Expr e pos) (tS X.K N C G (.expr ea)) := psImp (ps_expr he hs) fun D σ H h => by
  obtain ⟨p, env, μ, E, rfl, sr, hw, ok⟩ := h
  have hw : wpE C G E.xc ea env μ fun _ _ env μ => E.nx env μ := hw
  rw [ok.xc] at hw
  exact ⟨p, env, μ, _, rfl, sr, hw, fun k x env1 μ1 p1 v h1 sr1 st1 vr1 => ok.nx env1 μ1 p1 σ h1 sr1 st1⟩
theorem ret_ok {K : PySem.W.Frag} {p p' : Ph} {env : Env} {μ : Store} {σ : L2.St} {k : Kd} {d : D} {v : V} {R : Nat → D → Prop} (sr0 : SR K N p env μ σ) (sr : SR K N p' env μ σ) (vr : VR K p p' env μ σ k d v) (dom : ∀ a, p.H a = none → N a = none) (h : retK k env d R) : ∃ l, R l d ∧ RV K N p' l d v := by
  match k, vr, h with
  | .fz, vr, h => exact ⟨0, h, vr⟩
  | .fresh, vr, h => exact ⟨1, h, .tmp, .inl rfl, Ow.le (Loos.refl).le (fun _ _ w q => ⟨w, q⟩) (fun a _ e => dom a e) vr⟩
  | .bor i, vr, h =>
    obtain ⟨⟨d', e'⟩, h⟩ := h
    obtain ⟨l, e, ev⟩ := vr
    rw [e] at e'
    obtain ⟨rfl, rfl⟩ : l = 0 ∧ d = d' := by
      injection e' with e'
      injection e' with e'
      injection e' with e1 e2
      exact ⟨by omega, e2⟩
    obtain ⟨w, ew, z⟩ := sr.slot i _ _ e
    rw [ev] at ew; cases ew
    exact ⟨1, h, .slot i, .inr ⟨i, rfl⟩, z⟩
  | .borF n f, vr, h => exact h.elim
theorem SR.nn {K : PySem.W.Frag} {p : Ph} {env : Env} {μ : Store} {σ : L2.St} (sr : SR K N p env μ σ) : ∀ a, p.H a = none → N a = none := fun a e => by
  cases q : N a with
  | none => rfl
  | some u => exact absurd e (sr.dom a (by rw [q]; exact fun z => nomatch z))
theorem pvs_ret (he : PE X e (tE X.K N ⟨C, G, noX⟩ ea)) : PS X (.Return (some e) pos) (tS X.K N C G (.ret (some ea))) := psImp (ps_ret he) fun D σ H h => by
  obtain ⟨p, env, μ, E, rfl, sr, hw, ok⟩ := h
  have hw : wpE C G E.xc ea env μ fun k d env μ => retK k env d fun l d => E.rt l d μ := hw
  rw [ok.xc] at hw
  refine ⟨p, env, μ, _, rfl, sr, hw, fun k d env1 μ1 p1 v h1 sr1 st1 vr1 => ?_⟩
  match k, vr1, h1 with
  | .fz, vr1, h1 => exact ok.rt 0 d μ1 p1 v env1 σ h1 sr1 st1 vr1
  | .fresh, vr1, h1 => exact ok.rt 1 d μ1 p1 v env1 σ h1 sr1 st1 ⟨.tmp, .inl rfl, Ow.le (Loos.refl).le (fun _ _ w q => ⟨w, q⟩) (fun a _ e => sr.nn a e) vr1⟩
  | .bor i, vr1, h1 =>
    obtain ⟨⟨d', e'⟩, h⟩ := h1
    obtain ⟨l, e, ev⟩ := vr1
    rw [e] at e'
    obtain ⟨rfl, rfl⟩ : l = 0 ∧ d = d' := by
      injection e' with e'
      injection e' with e'
      injection e' with e1 e2
      exact ⟨by omega, e2⟩
    obtain ⟨w, ew, z⟩ := sr1.slot i _ _ e
    rw [ev] at ew; cases ew
    exact ok.rt 1 d μ1 p1 v env1 σ h sr1 st1 ⟨.slot i, .inr ⟨i, rfl⟩, z⟩
  | .borF n f, vr1, h1 => exact h1.elim
theorem pvs_retN : PS X (.Return none pos) (tS X.K N C G (.ret none)) := psImp ps_retN fun D σ H h => by
  obtain ⟨p, env, μ, E, rfl, sr, hw, ok⟩ := h
  exact ok.rt 0 .non μ p .non env σ hw sr .refl rfl
theorem pvs_if (hc : PT X c (tT X.K N ⟨C, G, noX⟩ ec)) (ha : PSs X sa (tSs X.K N C G pa)) (hb : PSs X sb (tSs X.K N C G pb)) : PS X (.If c sa sb pos) (tS X.K N C G (.ite ec pa pb)) := psImp (ps_if hc ha hb) fun D σ H h => by
  obtain ⟨p, env, μ, E, rfl, sr, hw, ok⟩ := h
  have hw : wpE C G E.xc ec env μ fun _ x env μ => tru x fun t => if t = true then wpSs C G pa E env μ else wpSs C G pb E env μ := hw
  rw [ok.xc] at hw
  refine ⟨p, env, μ, _, rfl, sr, hw, fun k d env1 μ1 p1 h1 sr1 st1 => tru_imp h1 fun t ht => ?_⟩
  cases t with
  | true =>
    rw [if_pos rfl] at ht ⊢
    exact ⟨p1, env1, μ1, E, rfl, sr1, ht, ok.from st1⟩
  | false =>
    rw [if_neg (by decide)] at ht ⊢
    exact ⟨p1, env1, μ1, E, rfl, sr1, ht, ok.from st1⟩
theorem pvs_asg (he : PE X e (tE X.K N ⟨C, G, noX⟩ ea)) (hg : PG X tg (gT X.K N t)) (hs : swapsWithSole [tg] e pos.line X.env = pure false := by rfl) (hw : swappedStores [tg] e X.env = pure none := by rfl)
    (h1 : (assignEach [tg] X.env).map (·.2) = [assign tg X.env] := by rfl) : PS X (.Assign [tg] e pos) (tS X.K N C G (.assign t ea)) := psImp (ps_asg he hg hs hw h1) fun D σ H h => by
  obtain ⟨p, env, μ, E, rfl, sr, hw, ok⟩ := h
  have hw : wpE C G E.xc ea env μ fun k d env μ => giveT t k d env fun env => E.nx env μ := hw
  rw [ok.xc] at hw
  refine ⟨p, env, μ, _, rfl, sr, hw, fun k d env1 μ1 p1 v h1 sr1 st1 vr1 => ⟨p, p1, env1, μ1, k, d, _, rfl, sr1, st1, sr.dom, vr1, h1, fun env' p' σ' hr sr' st' e le bt => ?_⟩⟩
  have := ok.nx env' μ1 p' σ' hr sr' st'
  exact this
end
end Pv

set_option autoImplicit false
set_option linter.all false
set_option Elab.async false
set_option maxRecDepth 100000
namespace Pv
open PySem PySem.Spec PyProof.Rows L2
section
variable {X : Cx} {N : Hp} {C : CallFn} {G : String → Option D} {pos p2 : Pos} {st : Stmt} {rest : List Stmt} {s : S} {r : List S} {e c tg iter : Expr} {ea ec : E} {it : I} {t : T} {sb : List Stmt} {body : List S}
/-! ### loops -/
theorem pvs_while {dead : List Nat} (hp : PassesOwn (model X.prog X.w) X.A X.env X.xe) (hc : PT X c (tT X.K N ⟨C, G, noX⟩ ec)) (hb : PSs X sb (tSs X.K N C G body)) : PS X (.While c sb [] pos) (tS X.K N C G (.while_ dead ec body)) := psImp (ps_while hp hc hb) fun D σ H h => by
  obtain ⟨p0, env, μ, E, rfl, sr, ⟨n, hw⟩, ok⟩ := h
  rw [ok.xc] at hw
  refine ⟨fun m σ H => ∃ p env μ, p.H = H ∧ SR X.K N p env μ σ ∧ Step p0 p ∧ whileLoop (fun (env1 : Env) (μ1 : Store) (K Nx : Env → Store → Prop) => wpE C G (fun _ _ _ => False) ec env1 μ1 fun _ x env2 μ2 => tru x fun t => if t = true then wpSs C G body { E with nx := fun e3 μ3 => Nx (wipeE e3 dead) μ3, ct := fun e3 μ3 => Nx (wipeE e3 dead) μ3, bk := fun e3 μ3 => K (wipeE e3 dead) μ3, xc := fun _ _ _ => False } env2 μ2 else K env2 μ2) m env μ E.nx,
    ⟨n, p0, wipeE env dead, μ, rfl, sr.wipe dead, .refl, hw⟩, ?_⟩
  rintro m σ1 H1 ⟨p1, env1, μ1, rfl, sr1, st1, hw1⟩
  cases m with
  | zero => exact hw1.elim
  | succ m =>
    refine ⟨p1, env1, μ1, _, rfl, sr1, hw1, fun k d env2 μ2 p2 h2 sr2 st2 => tru_imp h2 fun t ht => ?_⟩
    cases t with
    | false =>
      rw [if_neg (by decide)] at ht ⊢
      exact ok.nx env2 μ2 p2 σ1 ht sr2 (st1.trans st2)
    | true =>
      rw [if_pos rfl] at ht ⊢
      refine ⟨_, fun σ' H' h' => ⟨m, Nat.lt_succ_self m, h'⟩, p2, env2, μ2, _, rfl, sr2, ht, ?_, ?_, ?_, ?_, rfl⟩
      · exact fun env3 μ3 p3 σ3 h3 sr3 st3 => ⟨p3, wipeE env3 dead, μ3, rfl, sr3.wipe dead, st1.trans (st2.trans st3), h3⟩
      · exact fun l d μ3 p3 v env3 σ3 h3 sr3 st3 rv => ok.rt l d μ3 p3 v env3 σ3 h3 sr3 (st1.trans (st2.trans st3)) rv
      · exact fun env3 μ3 p3 σ3 h3 sr3 st3 => ok.nx _ μ3 p3 σ3 h3 (sr3.wipe dead) (st1.trans (st2.trans st3))
      · exact fun env3 μ3 p3 σ3 h3 sr3 st3 => ⟨p3, wipeE env3 dead, μ3, rfl, sr3.wipe dead, st1.trans (st2.trans st3), h3⟩
theorem drop_cons {α : Type} {l : List α} {i : Nat} {x : α} {r : List α} (h : l.drop i = x :: r) : l[i]? = some x ∧ l.drop (i + 1) = r := by
  have h1 : (l.drop i)[0]? = some x := by rw [h]; rfl
  rw [List.getElem?_drop] at h1
  refine ⟨by simpa using h1, ?_⟩
  rw [← List.drop_drop, h]
  rfl
theorem pvs_for {dead : List Nat} (hp : PassesOwn (model X.prog X.w) X.A X.env X.xe) (hc : X.calm = true) (hi : PI X tg iter (tI X.K N ⟨C, G, noX⟩ it)) (hg : PG X tg (gT X.K N t)) (hb : PSs X sb (tSs X.K N C G body))
    (hs : ∀ x, foldedSetIterable iter X.env x = pure x := by intro _; rfl) : PS X (.For tg iter sb [] pos) (tS X.K N C G (.for_ dead t it body)) := psImp (ps_for hp hc hi hg hb hs) fun D σ H h => by
  obtain ⟨p0, env, μ, E, rfl, sr, hw, ok⟩ := h
  have hw : wpI C G E.xc it env μ fun xs env μ =>
      forLoop (fun x env1 μ1 K => giveT t .fz x env1 fun env2 => wpSs C G body { E with nx := fun e3 μ3 => K (wipeE e3 dead) μ3, ct := fun e3 μ3 => K (wipeE e3 dead) μ3, bk := fun e3 μ3 => E.nx (wipeE e3 dead) μ3 } env2 μ1)
        xs (wipeE env dead) μ E.nx := hw
  rw [ok.xc] at hw
  refine ⟨p0, env, μ, _, rfl, sr, hw, fun ds env0 μ0 p1 J h0 sr0 st0 wk => ?_⟩
  refine ⟨fun i m σ H => ∃ p env μ, p.H = H ∧ SR X.K N p env μ σ ∧ Step p1 p ∧ (m = ds.length - i ∧ i ≤ ds.length) ∧ forLoop (fun x env1 μ1 K => giveT t .fz x env1 fun env2 => wpSs C G body { E with nx := fun e3 μ3 => K (wipeE e3 dead) μ3, ct := fun e3 μ3 => K (wipeE e3 dead) μ3, bk := fun e3 μ3 => E.nx (wipeE e3 dead) μ3, xc := fun _ _ _ => False } env2 μ1) (ds.drop i) env μ E.nx,
    ⟨_, p1, wipeE env0 dead, μ0, rfl, sr0.wipe dead, .refl, ⟨rfl, Nat.zero_le _⟩, h0⟩, ?_⟩
  rintro i m σ1 H1 ⟨p2, env1, μ1, rfl, sr1, st1, ⟨rfl, hi⟩, hw1⟩
  cases hd : ds.drop i with
  | nil =>
    have hl : ds.length ≤ i := by
      have := congrArg List.length hd
      simp at this
      omega
    rw [hd] at hw1
    exact .inl ⟨(wk i p2 st1).1 hl, ok.nx env1 μ1 p2 σ1 hw1 sr1 (st0.trans st1)⟩
  | cons x rest =>
    obtain ⟨hx, hr⟩ := drop_cons hd
    have hlt : i < ds.length := (List.getElem?_eq_some_iff.mp hx).1
    rw [hd] at hw1
    obtain ⟨go, yl⟩ := (wk i p2 st1).2 x hx
    refine .inr ⟨go, _, fun σ' H' h' => ⟨ds.length - (i + 1), by omega, h'⟩, fun y H' hy => ?_⟩
    obtain ⟨p3, rfl, ext, fz⟩ := yl y H' hy
    have s13 := st1.trans ext.step
    refine ⟨p3, p3, env1, μ1, .fz, x, _, rfl, sr1.ext ext, .refl, (sr1.ext ext).dom, fz, hw1, fun env4 p4 σ4 h4 sr4 st4 _ _ _ => ⟨p4, env4, μ1, _, rfl, sr4, h4, ?_, ?_, ?_, ?_, rfl⟩⟩
    · exact fun env5 μ5 p5 σ5 h5 sr5 st5 => ⟨p5, wipeE env5 dead, μ5, rfl, sr5.wipe dead, s13.trans (st4.trans st5), ⟨rfl, hlt⟩, by rw [hr]; exact h5⟩
    · exact fun l d μ5 p5 v env5 σ5 h5 sr5 st5 rv => ok.rt l d μ5 p5 v env5 σ5 h5 sr5 (st0.trans (s13.trans (st4.trans st5))) rv
    · exact fun env5 μ5 p5 σ5 h5 sr5 st5 => ok.nx _ μ5 p5 σ5 h5 (sr5.wipe dead) (st0.trans (s13.trans (st4.trans st5)))
    · exact fun env5 μ5 p5 σ5 h5 sr5 st5 => ⟨p5, wipeE env5 dead, μ5, rfl, sr5.wipe dead, s13.trans (st4.trans st5), ⟨rfl, hlt⟩, by rw [hr]; exact h5⟩
end
section
/-! ### comprehensions -/
variable {K : PySem.W.Frag} {N : Hp} {p p' p0 p1 : Ph} {env env1 : Env} {μ : Store} {σ : L2.St}
theorem wipeE_get (env : Env) : ∀ (own : List Nat) (j : Nat), (wipeE env own)[j]? = if j ∈ own ∧ j < env.length then some none else env[j]?
  | [], j => by simp [wipeE]
  | v :: vs, j => by
    have hl : (wipeE env vs).length = env.length := by
      induction vs with
      | nil => rfl
      | cons w ws ih => show ((wipeE env ws).set w none).length = _; rw [List.length_set, ih]
    show ((wipeE env vs).set v none)[j]? = _
    by_cases h : v = j
    · subst h
      by_cases h2 : v < env.length
      · rw [List.getElem?_set_self (by omega), if_pos ⟨List.mem_cons_self, h2⟩]
      · rw [List.getElem?_eq_none (by rw [List.length_set]; omega), if_neg (fun q => h2 q.2), List.getElem?_eq_none (by omega)]
    · rw [List.getElem?_set_ne h, wipeE_get env vs j]
      have : (j ∈ v :: vs) ↔ (j ∈ vs) := ⟨fun q => by
        rcases List.mem_cons.mp q with q | q
        · exact absurd q.symm h
        · exact q, List.mem_cons_of_mem _⟩
      simp only [this]
theorem wipe_get (σ : L2.St) : ∀ (own : List Nat) (j : Nat), (L2.wipe σ own)[j]? = if j ∈ own ∧ j < σ.length then some none else σ[j]?
  | [], j => by simp [wipe]
  | v :: vs, j => by
    show ((wipe σ vs).set v none)[j]? = _
    by_cases h : v = j
    · subst h
      by_cases h2 : v < σ.length
      · rw [List.getElem?_set_self (by rw [wipe_length]; omega), if_pos ⟨List.mem_cons_self, h2⟩]
      · rw [List.getElem?_eq_none (by rw [List.length_set, wipe_length]; omega), if_neg (fun q => h2 q.2), List.getElem?_eq_none (by omega)]
    · rw [List.getElem?_set_ne h, wipe_get σ vs j]
      have : (j ∈ v :: vs) ↔ (j ∈ vs) := ⟨fun q => by
        rcases List.mem_cons.mp q with q | q
        · exact absurd q.symm h
        · exact q, List.mem_cons_of_mem _⟩
      simp only [this]
theorem back_get (env env' : Env) (hl : env'.length = env.length) : ∀ (own : List Nat) (j : Nat), (back env env' own)[j]? = if j ∈ own ∧ j < env.length then env[j]? else env'[j]?
  | [], j => by simp [back]
  | v :: vs, j => by
    have hb : ∀ vs : List Nat, (back env env' vs).length = env'.length := fun vs => by
      induction vs with
      | nil => rfl
      | cons w ws ih => show ((back env env' ws).set w _).length = _; rw [List.length_set, ih]
    show ((back env env' vs).set v _)[j]? = _
    by_cases h : v = j
    · subst h
      by_cases h2 : v < env.length
      · rw [List.getElem?_set_self (by rw [hb]; omega), if_pos ⟨List.mem_cons_self, h2⟩]
        rw [List.getElem?_eq_getElem h2]
      · rw [List.getElem?_eq_none (by rw [List.length_set, hb]; omega), if_neg (fun q => h2 q.2), List.getElem?_eq_none (by omega)]
    · rw [List.getElem?_set_ne h, back_get env env' hl vs j]
      have : (j ∈ v :: vs) ↔ (j ∈ vs) := ⟨fun q => by
        rcases List.mem_cons.mp q with q | q
        · exact absurd q.symm h
        · exact q, List.mem_cons_of_mem _⟩
      simp only [this]
theorem wipe_but {vs : List Nat} {σ σ' : L2.St} {own : List Nat} (h : But vs σ σ') (hv : ∀ v ∈ vs, v ∈ own) : wipe σ' own = wipe σ own := by
  refine List.ext_getElem? fun j => ?_
  rw [wipe_get, wipe_get, h.1]
  by_cases hj : j ∈ own ∧ j < σ.length
  · rw [if_pos hj, if_pos hj]
  · rw [if_neg hj, if_neg hj]
    by_cases q : j ∈ own
    · have : ¬ j < σ.length := fun z => hj ⟨q, z⟩
      rw [List.getElem?_eq_none (by rw [h.1]; omega), List.getElem?_eq_none (by omega)]
    · exact h.2 j fun z => q (hv j z)
theorem wipe_wipe {σ : L2.St} {own : List Nat} : L2.wipe (L2.wipe σ own) own = wipe σ own := by
  refine List.ext_getElem? fun j => ?_
  rw [wipe_get, wipe_length]
  by_cases hj : j ∈ own ∧ j < σ.length
  · rw [if_pos hj, wipe_get, if_pos hj]
  · rw [if_neg hj]
theorem SR.wipeB (sr : SR K N p env μ σ) (own : List Nat) : SR K N p (wipeE env own) μ (L2.wipe σ own) := by
  have s2 := sr.wipe own
  refine ⟨by rw [wipe_length]; exact s2.len, fun i l d e => ?_, sr.st, sr.obj, sr.lab, sr.dom⟩
  rw [wipeE_get] at e
  by_cases h : i ∈ own ∧ i < env.length
  · rw [if_pos h] at e; cases e
  · rw [if_neg h] at e
    obtain ⟨v, e1, z⟩ := sr.slot i l d e
    refine ⟨v, ?_, z⟩
    rw [wipe_get, if_neg (by rw [← sr.len]; exact h)]
    exact e1
/-- behind the block -/
theorem SR.backB {own : List Nat} (sr : SR K N p env μ σ) (le : Le p p') {μ' : Store} (sr' : SR K N p' env1 μ' (L2.wipe σ own)) (ho : outOk env own = true) : SR K N p' (back env env1 own) μ' σ := by
  have hl : env1.length = env.length := by rw [sr'.len, wipe_length, sr.len]
  have hb : (back env env1 own).length = env.length := by
    have : ∀ vs : List Nat, (back env env1 vs).length = env1.length := fun vs => by
      induction vs with
      | nil => rfl
      | cons w ws ih => show ((back env env1 ws).set w _).length = _; rw [List.length_set, ih]
    rw [this, hl]
  refine ⟨hb.trans sr.len, fun i l d e => ?_, sr'.st, sr'.obj, sr'.lab, sr'.dom⟩
  rw [back_get env env1 hl] at e
  by_cases h : i ∈ own ∧ i < env.length
  · rw [if_pos h] at e
    obtain ⟨v, e1, z⟩ := sr.slot i l d e
    have := List.all_eq_true.mp ho i h.1
    rw [e] at this
    obtain rfl : l = 0 := by simpa using this
    exact ⟨v, e1, Fz.le le _ _ z⟩
  · rw [if_neg h] at e
    obtain ⟨v, e1, z⟩ := sr'.slot i l d e
    rw [wipe_get, if_neg (by rw [← sr.len]; exact h)] at e1
    exact ⟨v, e1, z⟩
/-- a thing that is no one's is changed -/
theorem SR.putT {a : Addr} {o : HO} (sr : SR K N p env μ σ) (w : p.W a = some .tmp) (hm : Mut (some o)) : SR K N ⟨p.θ, p.W, upd p.H a o⟩ env μ σ ∧ Le p ⟨p.θ, p.W, upd p.H a o⟩ := by
  have le := le_put (o := o) w
  have ws : ∀ b q u, p.W b = some q → p.H b = some u → q ≠ .tmp → q ≠ .far → p.W b = some q ∧ upd p.H a o b = some u := fun b q u h1 h2 h3 h4 => by
    have ne : b ≠ a := fun e => by rw [e, w] at h1; cases h1; exact h3 rfl
    exact ⟨h1, (upd_ne ne).trans h2⟩
  refine ⟨⟨sr.len, fun i l d e => ?_, sr.st, fun n ob e => ?_, fun b q e => ?_, fun b e => ?_⟩, le⟩
  · obtain ⟨v, e1, z⟩ := sr.slot i l d e
    exact ⟨v, e1, z.re le ws⟩
  · obtain ⟨b, e1, z⟩ := sr.obj n ob e
    exact ⟨b, e1, z.re le ws⟩
  · by_cases hb : b = a
    · subst hb; exact ⟨o, upd_same, hm⟩
    · obtain ⟨u, q', m⟩ := sr.lab b q e
      exact ⟨u, (upd_ne hb).trans q', m⟩
  · by_cases hb : b = a
    · subst hb; show upd p.H b o b ≠ none; rw [upd_same]; exact fun z => nomatch z
    · show upd p.H a o b ≠ none
      rw [upd_ne hb]; exact sr.dom b e
end
section
variable {X : Cx} {N : Hp} {z : Ev} {C : CallFn} {G : String → Option D} {pos p2 : Pos} {e c tg iter elt : Expr} {ea ec : E} {it : I} {t : T} {ifs : List Expr} {conds : List E}
/-- tests of a clause -/
def tC (K : PySem.W.Frag) (N : Hp) (z : Ev) (es : List E) : TT := fun σ H Q => ∃ p env μ Po, p.H = H ∧ SR K N p env μ σ ∧ wpC z.C z.G z.X es env μ Po ∧
  ∀ t env' μ' p', Po t env' μ' → SR K N p' env' μ' σ → Step p p' → Q t p'.H
theorem ptsImp {e : List Expr} {t t' : TT} (h : PTs X e t) (hi : ∀ σ H Q, t' σ H Q → t σ H Q) : PTs X e t' := ⟨fun pins s σ H Q I q => h.run pins s σ H Q I (hi σ H Q q)⟩
theorem pvc_nil : PTs X [] (tC X.K N z []) := ptsImp pts_nil fun σ H Q h => by
  obtain ⟨p, env, μ, Po, rfl, sr, hw, post⟩ := h
  exact post true env μ p hw sr .refl
theorem pvc_one (h : PT X c (tT X.K N z ec)) : PTs X [c] (tC X.K N z [ec]) := ptsImp (pts_one h) fun σ H Q h => by
  obtain ⟨p, env, μ, Po, rfl, sr, hw, post⟩ := h
  refine ⟨p, env, μ, _, rfl, sr, hw, fun k d env1 μ1 p1 h1 sr1 st1 => tru_imp h1 fun t ht => ?_⟩
  cases t with
  | true =>
    rw [if_pos rfl] at ht
    exact post true env1 μ1 p1 ht sr1 st1
  | false =>
    rw [if_neg (by decide)] at ht
    exact post false env1 μ1 p1 ht sr1 st1
/-- the reading of a list comprehension gives what it is to give -/
theorem lc_read {K : PySem.W.Frag} {σ : L2.St} {H : Hp} {Q : VK} {own : List Nat} (hv : ∀ v ∈ varsT t, v ∈ own) (h : tE K N z (.comp own ea t it conds) σ H Q) :
    tLc (tI K N z it) (gT K N t) (tC K N ⟨z.C, z.G, noX⟩ conds) (tE K N ⟨z.C, z.G, noX⟩ ea) own σ H Q := by
  obtain ⟨p, env, μ, Po, rfl, sr, hw, post⟩ := h
  refine ⟨p, env, μ, _, rfl, sr, hw, fun ds env0 μ0 p1 J h0 sr0 st0 wk => fun L hL => ?_⟩
  obtain ⟨hout, h0⟩ := h0
  have n := new_lst (K := K) (p := p1) (ds := []) (vs := []) hL rfl
  have srB := (sr0.ext n.1).wipeB own
  refine ⟨fun i m H => ∃ q env μ acc as, q.H = H ∧ SR K N q env μ (L2.wipe σ own) ∧ Step p1 q ∧ (m = ds.length - i ∧ i ≤ ds.length) ∧ (q.W L = some .tmp ∧ q.H L = some (.lst as)) ∧ FzL K q acc as ∧
    compLoop (fun x env1 μ1 K => giveT t .fz x env1 fun env2 => wpC z.C z.G (fun _ _ _ => False) conds env2 μ1 fun c env3 μ3 =>
        if c = true then wpE z.C z.G (fun _ _ _ => False) ea env3 μ3 fun kd d env4 μ4 => esc kd env4 fun env5 => K (some d) (wipeE env5 own) μ4
        else K none (wipeE env3 own) μ3) (ds.drop i) acc env μ fun acc env' μ' => Po .fresh (.lst acc) (back env0 env' own) μ',
    ⟨_, _, wipeE env0 own, μ0, [], [], rfl, srB, n.1.step, ⟨rfl, Nat.zero_le _⟩, ⟨updW_same, upd_same⟩, rfl, h0⟩, ?_⟩
  rintro i m H1 ⟨p2, env1, μ1, acc, as, rfl, sr1, st1, ⟨rfl, hi⟩, ⟨wL, hL1⟩, fl, hw1⟩
  cases hd : ds.drop i with
  | nil =>
    have hl : ds.length ≤ i := by
      have := congrArg List.length hd
      simp at this
      omega
    rw [hd] at hw1
    refine .inl ⟨(wk i p2 st1).1 hl, post .fresh _ _ μ1 p2 _ hw1 (sr0.backB st1.le sr1 hout) (st0.trans st1) ⟨L, as, rfl, ⟨wL, hL1, ?_⟩, fl⟩⟩
    cases q : p.H L with
    | none => rfl
    | some u => exact absurd hL (st0.dom L (by rw [q]; exact fun z => nomatch z))
  | cons x rest =>
    obtain ⟨hx, hr⟩ := drop_cons hd
    have hlt : i < ds.length := (List.getElem?_eq_some_iff.mp hx).1
    rw [hd] at hw1
    obtain ⟨go, yl⟩ := (wk i p2 st1).2 x hx
    refine .inr ⟨go, _, fun H' h' => ⟨ds.length - (i + 1), by omega, h'⟩, fun y H' hy => ?_⟩
    obtain ⟨p3, rfl, ext, fz⟩ := yl y H' hy
    have sr3 := sr1.ext ext
    refine ⟨p3, p3, env1, μ1, .fz, x, _, rfl, sr3, .refl, sr3.dom, fz, hw1, fun env4 p4 σ4 h4 sr4 st4 _ _ bt => ⟨(wipe_but bt hv).trans wipe_wipe, p4, env4, μ1, _, rfl, sr4, h4, fun b env5 μ5 p5 h5 sr5 st5 => ?_⟩⟩
    have s25 := ext.step.trans (st4.trans st5)
    have srw : ∀ {q : Ph} {e : Env} {m : Store}, SR K N q e m σ4 → SR K N q (wipeE e own) m (L2.wipe σ own) := fun h => by
      have := h.wipeB own
      rw [(wipe_but bt hv).trans wipe_wipe] at this
      exact this
    cases b with
    | false =>
      simp only [Bool.false_eq_true, if_false] at h5 ⊢
      have k5 := s25.keep L _ hL1 (by rw [wL]; rfl)
      exact ⟨p5, wipeE env5 own, μ5, acc, as, rfl, srw sr5, st1.trans s25, ⟨trivial, hlt⟩, ⟨k5.2.trans wL, k5.1⟩, FzL.le s25.le _ _ fl, by rw [hr]; exact h5⟩
    | true =>
      simp only [if_true] at h5 ⊢
      refine ⟨p5, env5, μ5, _, rfl, sr5, h5, fun kd d env6 μ6 p6 w h6 sr6 st6 vr6 => ?_⟩
      obtain ⟨env7, p7, h7, hh, lo, sr7, st7, fz7⟩ := esc_ok sr6 st6 vr6 h6
      have s27 := s25.trans st7
      have k7 := s27.keep L _ hL1 (by rw [wL]; rfl)
      have w7 := k7.2.trans wL
      refine ⟨as, by rw [← hh]; exact k7.1, by rw [← fl.length]; exact h7.1, ?_⟩
      have pt := (srw sr7).putT (o := .lst (as ++ [w])) w7 trivial
      refine ⟨⟨p7.θ, p7.W, upd p7.H L (.lst (as ++ [w]))⟩, wipeE env7 own, μ6, acc ++ [d], as ++ [w], by rw [hh], pt.1, ⟨fun n a q => (st1.trans s27).th n a q, fun a o q w => ?_, fun a q => ?_⟩, ⟨trivial, hlt⟩, ⟨w7, upd_same⟩, FzL.le pt.2 _ _ (FzL.append (FzL.le s27.le _ _ fl) ⟨w, [], rfl, fz7, rfl⟩), by rw [hr]; exact h7.2⟩
      · have ne : a ≠ L := fun e => by rw [e, hL] at q; cases q
        have := (st1.trans s27).keep a o q w
        exact ⟨(upd_ne ne).trans this.1, this.2⟩
      · by_cases ne : a = L
        · subst ne; show upd p7.H a _ a ≠ none; rw [upd_same]; exact fun z => nomatch z
        · show upd p7.H L _ a ≠ none
          rw [upd_ne ne]; exact (st1.trans s27).dom a q
theorem pv_lc {scope : Scope} {own : List (Str × Nat)} (hc : X.calm = true) (hN : X.N.Nodup) (hi : PI X tg iter (tI X.K N z it)) (ok : BlkOk X.N X.env.scope scope own) (hv : ∀ v ∈ varsT t, v ∈ own.map (·.2))
    (hg : ∀ (s : Shared) (H : Hp) (C : Addr) (cl : List (Str × Addr)) (fp : List Addr), PG (X.blk s H scope (compEnvC scope cl C X.env) fp) tg (gT X.K N t)) (ht : ∀ (s : Shared) (H : Hp) (C : Addr) (cl : List (Str × Addr)) (fp : List Addr), PTs (X.blk s H scope (compEnvC scope cl C X.env) fp) ifs (tC X.K N ⟨z.C, z.G, noX⟩ conds))
    (he : ∀ (s : Shared) (H : Hp) (C : Addr) (cl : List (Str × Addr)) (fp : List Addr), PE (X.blk s H scope (compEnvC scope cl C X.env) fp) elt (tE X.K N ⟨z.C, z.G, noX⟩ ea)) (hs : ∀ x, foldedSetIterable iter X.env x = pure x := by intro _; rfl) :
    PE X (.ListComp elt [⟨tg, iter, ifs, 0⟩] scope pos) (tE X.K N z (.comp (own.map (·.2)) ea t it conds)) :=
  peImp (pe_lc hc hN hi ok hg ht he hs) fun σ H Q h => lc_read hv h
theorem psImpI {st : Stmt} {t t' : TS} (h : PS X st t) (hi : ∀ D σ H, σ.length = X.N.length → t' D σ H → t D σ H) : PS X st t' := ⟨fun pins s σ H D I q => h.run pins s σ H D I (hi D σ H I.len q)⟩
theorem pvs_setLc {scope : Scope} {own : List (Str × Nat)} {i : Nat} {y : Str} {py spos : Pos} (hc : X.calm = true) (hN : X.N.Nodup) (hy : X.N[i]? = some y) (hyl : X.env.scope.names.lookup y = some .local)
    (hsw : swapsWith (.ListComp elt [⟨tg, iter, ifs, 0⟩] scope pos) (some (.Name y py)) spos.line X.env = pure true) (hi : PI X tg iter (tI X.K N ⟨C, G, noX⟩ it)) (ok : BlkOk X.N X.env.scope scope own) (hv : ∀ v ∈ varsT t, v ∈ own.map (·.2))
    (hg : ∀ (s : Shared) (H : Hp) (C : Addr) (cl : List (Str × Addr)) (fp : List Addr), PG (X.blk s H scope (compEnvC scope cl C X.env) fp) tg (gT X.K N t)) (ht : ∀ (s : Shared) (H : Hp) (C_ : Addr) (cl : List (Str × Addr)) (fp : List Addr), PTs (X.blk s H scope (compEnvC scope cl C_ X.env) fp) ifs (tC X.K N ⟨C, G, noX⟩ conds))
    (he : ∀ (s : Shared) (H : Hp) (C_ : Addr) (cl : List (Str × Addr)) (fp : List Addr), PE (X.blk s H scope (compEnvC scope cl C_ X.env) fp) elt (tE X.K N ⟨C, G, noX⟩ ea)) (hs : ∀ x, foldedSetIterable iter X.env x = pure x := by intro _; rfl) :
    PS X (.Assign [.Name y py] (.ListComp elt [⟨tg, iter, ifs, 0⟩] scope pos) spos) (tS X.K N C G (.assign (.var i) (.comp (own.map (·.2)) ea t it conds))) := psImpI (ps_setLc hc hN hy hyl hsw hi ok hg ht he hs) fun D σ H hlen h => by
  obtain ⟨p, env, μ, E, rfl, sr, hw, ok'⟩ := h
  have hw : wpE C G E.xc (.comp (own.map (·.2)) ea t it conds) env μ fun k d env μ => giveT (.var i) k d env fun env => E.nx env μ := hw
  rw [ok'.xc] at hw
  refine lc_read hv ⟨p, env, μ, _, rfl, sr, hw, fun k d env1 μ1 p1 v h1 sr1 st1 vr1 => ?_⟩
  obtain ⟨env', p', hr, e, le, sr', st'⟩ := give_ok sr1 st1 (by rw [sr1.len, hlen]; exact (List.getElem?_eq_some_iff.mp hy).1) sr.dom vr1 (show give i k d env1 fun env => E.nx env μ1 from h1)
  have := ok'.nx env' μ1 p' _ hr sr' st'
  rw [e] at this
  exact this
end
end Pv

set_option autoImplicit false
set_option linter.all false
set_option Elab.async false
set_option maxRecDepth 100000
namespace Pv
open PySem PySem.Spec PyProof.Rows L2
section
variable {K : PySem.W.Frag} {N : Hp} {p p' p0 : Ph} {env : Env} {μ : Store} {σ : L2.St}
/-! ### what is put into lists, dicts, objects -/
theorem FzKV.any {k : D} {q : Key} (hk : keyV k = some q) : ∀ {kvs : List (D × D)} {ps : List (Key × V)}, FzKV K p kvs ps → (ps.any fun kv => decide (kv.1 = q)) = kvs.any fun z => pyEq z.1 k
  | [], ps, h => by rw [show ps = [] from h]; rfl
  | (a, d) :: r, ps, h => by
    obtain ⟨q', v, qs, rfl, ka, z, t⟩ := h
    rw [List.any_cons, List.any_cons, FzKV.any hk t, keyV_eq ka hk]
theorem FzKV.repl {k d : D} {q : Key} {w : V} (hk : keyV k = some q) (hw : Fz K p d w) : ∀ {kvs : List (D × D)} {ps : List (Key × V)}, FzKV K p kvs ps →
    FzKV K p (kvs.map fun z => if pyEq z.1 k = true then (z.1, d) else z) (ps.map fun kv => if kv.1 = q then (kv.1, w) else kv)
  | [], ps, h => by rw [show ps = [] from h]; rfl
  | (a, x) :: r, ps, h => by
    obtain ⟨q', v, qs, rfl, ka, z, t⟩ := h
    have e := keyV_eq ka hk
    have ih := FzKV.repl hk hw t
    rw [List.map_cons, List.map_cons]
    by_cases h : q' = q
    · rw [if_pos h, if_pos (by rw [e]; exact decide_eq_true h)]
      exact ⟨q', w, _, rfl, ka, hw, ih⟩
    · rw [if_neg h, if_neg (by rw [e]; simpa using h)]
      exact ⟨q', v, _, rfl, ka, z, ih⟩
theorem FzKV.append : ∀ {kvs lvs : List (D × D)} {ps qs : List (Key × V)}, FzKV K p kvs ps → FzKV K p lvs qs → FzKV K p (kvs ++ lvs) (ps ++ qs)
  | [], lvs, ps, qs, h, h' => by rw [show ps = [] from h]; exact h'
  | (a, x) :: r, lvs, ps, qs, h, h' => by
    obtain ⟨q', v, rs, rfl, ka, z, t⟩ := h
    exact ⟨q', v, rs ++ qs, rfl, ka, z, FzKV.append t h'⟩
theorem FzKV.put {k d : D} {q : Key} {w : V} (hk : keyV k = some q) (hw : Fz K p d w) {kvs : List (D × D)} {ps : List (Key × V)} (h : FzKV K p kvs ps) : FzKV K p (dput kvs k d) (putK ps q w) := by
  unfold dput putK
  rw [FzKV.any hk h]
  split
  · exact h.repl hk hw
  · exact h.append ⟨q, w, [], rfl, hk, hw, rfl⟩
/-- labels that names do not bear -/
def NoName (w : Own) : Prop := (∀ i, w ≠ .slot i) ∧ w ≠ .lent
theorem VS.put {a : Addr} {o : HO} {w : Own} (hw : p.W a = some w) (nn : NoName w) {i l : Nat} {d : D} {v : V} (h : VS K N p i l d v) : VS K N ⟨p.θ, p.W, upd p.H a o⟩ i l d v := by
  have le := le_put (o := o) hw
  match l, h with
  | 0, h => exact Fz.le le _ _ h
  | 1, h => exact Ow.le (o := .slot i) le (fun b u x q => ⟨x, (upd_ne fun e => by rw [e, hw] at x; cases x; exact nn.1 i rfl).trans q⟩) (fun _ _ h => h) h
  | l + 2, h =>
    have h : Ct K p d v := h
    show Ct K _ d v
    have rd : ∀ b u, (p.W b = none ∨ p.W b = some .lent) → Rd p.H b u → Rd (upd p.H a o) b u := fun b u w r => by
      have nb : b ≠ a := fun e => by
        rw [e, hw] at w
        rcases w with w | w
        · cases w
        · cases w; exact nn.2 rfl
      exact r.imp (fun r => (upd_ne nb).trans r) fun ⟨q, r⟩ => ⟨q, (upd_ne nb).trans r⟩
    cases d with
    | lst y => obtain ⟨b, vs, e, ⟨w, q⟩, f⟩ := h; exact ⟨b, vs, e, ⟨w, rd b _ w q⟩, FzL.le le _ _ f⟩
    | dic y => obtain ⟨b, vs, e, ⟨w, q⟩, f⟩ := h; exact ⟨b, vs, e, ⟨w, rd b _ w q⟩, FzKV.le le _ _ f⟩
    | ref n => exact Fz.le (K := K) le (.ref n) v h
    | tup y => exact Fz.le (K := K) le (.tup y) v h
    | _ => exact h
theorem set_other {f : List Nat} {l : Nat} {d : D} {fs : List (List Nat × Nat × D)} : (∀ x ∈ fs, x.1 ≠ f) → fs.map (fun p => if p.1 == f then (f, (l, d)) else p) = fs := fun h =>
  (List.map_congr_left fun x hx => by
    have : (x.1 == f) = false := beq_eq_false_iff_ne.mpr (h x hx)
    rw [this]; rfl).trans (List.map_id' fs)
theorem FsR.keysOut {n : Nat} {f : List Nat} : ∀ {fs : List (List Nat × Nat × D)} {ps : List (Key × V)}, FsR K p n fs ps → (∀ x ∈ fs, x.1 ≠ f) → ∀ w, ps.map (fun kv => if kv.1 = (.inr (toStr f) : Key) then (kv.1, w) else kv) = ps
  | [], ps, h, _, w => by rw [show ps = [] from h]; rfl
  | (g, l, d) :: r, ps, h, hn, w => by
    obtain ⟨v, qs, rfl, z, t⟩ := h
    rw [List.map_cons, FsR.keysOut t (fun x hx => hn x (List.mem_cons_of_mem _ hx)) w, if_neg]
    intro e
    exact hn _ List.mem_cons_self (toStr_inj (Sum.inr.inj e))
/-- one member anew, the others as they are -/
theorem FsR.upd1 {n : Nat} {f : List Nat} {l : Nat} {d : D} {w : V} (hw : VF K p' n f l d w) (hk : ∀ g l d v, g ≠ f → VF K p n g l d v → VF K p' n g l d v) :
    ∀ {fs : List (List Nat × Nat × D)} {ps : List (Key × V)}, FsR K p n fs ps → (fs.map (·.1)).Nodup → FsR K p' n (fs.map fun p => if p.1 == f then (f, (l, d)) else p) (ps.map fun kv => if kv.1 = (.inr (toStr f) : Key) then (kv.1, w) else kv)
  | [], ps, h, _ => by rw [show ps = [] from h]; rfl
  | (g, l', d') :: r, ps, h, nd => by
    obtain ⟨v, qs, rfl, z, t⟩ := h
    have nd2 := (List.nodup_cons.mp nd).2
    have ih := FsR.upd1 hw hk t nd2
    rw [List.map_cons, List.map_cons]
    by_cases hg : g = f
    · subst hg
      rw [if_pos rfl, if_pos (show (g == g) = true from beq_self_eq_true g)]
      exact ⟨w, _, rfl, hw, ih⟩
    · rw [if_neg (fun e => hg (toStr_inj (Sum.inr.inj e))), if_neg (show ¬ (g == f) = true from fun e => hg (beq_iff_eq.mp e))]
      exact ⟨v, _, rfl, hk g l' d' v hg z, ih⟩
/-- the same where the member's own value stays at its place -/
theorem FsR.upd0 {n : Nat} {f : List Nat} {l : Nat} {d : D} {w : V} (hw : VF K p' n f l d w) (hk : ∀ g l d v, g ≠ f → VF K p n g l d v → VF K p' n g l d v) :
    ∀ {fs : List (List Nat × Nat × D)} {ps : List (Key × V)}, FsR K p n fs ps → (fs.map (·.1)).Nodup → valV ps (.inr (toStr f)) = some w → FsR K p' n (fs.map fun p => if p.1 == f then (f, (l, d)) else p) ps
  | [], ps, h, _, _ => by rw [show ps = [] from h]; rfl
  | (g, l', d') :: r, ps, h, nd, hv => by
    obtain ⟨v, qs, rfl, z, t⟩ := h
    have nd1 := (List.nodup_cons.mp nd).1
    have nd2 := (List.nodup_cons.mp nd).2
    rw [List.map_cons]
    by_cases hg : g = f
    · subst hg
      rw [valV_pos rfl] at hv
      cases hv
      rw [if_pos (show (g == g) = true from beq_self_eq_true g), set_other fun x hx e => nd1 (by show g ∈ _; rw [← e]; exact List.mem_map_of_mem hx)]
      refine ⟨v, qs, rfl, hw, ?_⟩
      have tl : ∀ {fs : List (List Nat × Nat × D)} {ps : List (Key × V)}, (∀ x ∈ fs, x.1 ≠ g) → FsR K p n fs ps → FsR K p' n fs ps := by
        intro fs
        induction fs with
        | nil => exact fun _ h => h
        | cons x r ih =>
          obtain ⟨h, l2, d2⟩ := x
          intro ps hx hf
          obtain ⟨v2, q2, e2, z2, t2⟩ := hf
          exact ⟨v2, q2, e2, hk h l2 d2 v2 (hx _ List.mem_cons_self) z2, ih (fun x hx' => hx x (List.mem_cons_of_mem _ hx')) t2⟩
      exact tl (fun x hx e => nd1 (by show g ∈ _; rw [← e]; exact List.mem_map_of_mem hx)) t
    · rw [valV_neg (fun e => hg (toStr_inj (Sum.inr.inj e)))] at hv
      rw [if_neg (show ¬ (g == f) = true from fun e => hg (beq_iff_eq.mp e))]
      exact ⟨v, qs, rfl, hk g l' d' v hg z, FsR.upd0 hw hk t nd2 hv⟩
theorem setF_names {o : Obj} {f : List Nat} {v : Nat × D} : (setF o f v).fs.map (·.1) = o.fs.map (·.1) := by
  unfold setF
  rw [List.map_map]
  refine List.map_congr_left fun x _ => ?_
  show (if (x.1 == f) = true then (f, v) else x).1 = x.1
  split
  · rename_i h; exact (beq_iff_eq.mp h).symm
  · rfl
/-- the store with one object anew -/
theorem store_set {n m : Nat} {o o' : Obj} (h : μ[n]? = some o) (e : (μ.set n o')[m]? = some o') (h' : m ≠ n) : μ[m]? = some o' := by
  rw [List.getElem?_set_ne (Ne.symm h')] at e; exact e
end
section
variable {K : PySem.W.Frag} {N : Hp} {p p' p0 : Ph} {env : Env} {μ : Store} {σ : L2.St}
/-- a list of a member of an object is changed -/
theorem SR.putM (sr : SR K N p env μ σ) {n : Nat} {ob : Obj} {f : List Nat} {l l' : List D} (h : μ[n]? = some ob) (e : getF ob f = some (1, .lst l)) {a : Addr} {ps : List (Key × V)} {b : Addr} (ha : p.θ[n]? = some a) (hp : p.H a = some (.dK ps)) (hv : valV ps (.inr (toStr f)) = some (.ref b)) :
    ∃ vs, p.H b = some (.lst vs) ∧ FzL K p l vs ∧ ∀ vs', FzL K p l' vs' → SR K N ⟨p.θ, p.W, upd p.H b (.lst vs')⟩ env (μ.set n (setF ob f (1, .lst l'))) σ ∧ Step p ⟨p.θ, p.W, upd p.H b (.lst vs')⟩ ∧ Le p ⟨p.θ, p.W, upd p.H b (.lst vs')⟩ := by
  obtain ⟨a', ps', v', e1, wa, e2, fs, e3, z⟩ := sr.field h e
  rw [ha] at e1; cases e1
  rw [hp] at e2; cases e2
  rw [hv] at e3; cases e3
  obtain ⟨b', vs, eb, ⟨wb, hb, _⟩, fl⟩ := z
  cases eb
  refine ⟨vs, hb, fl, fun vs' fl' => ?_⟩
  have le := le_put (o := .lst vs') wb
  have ne : a ≠ b := fun e => by rw [e, wb] at wa; cases wa
  have hkeep : ∀ m g l d v, ¬ (m = n ∧ g = f) → VF K p m g l d v → VF K ⟨p.θ, p.W, upd p.H b (.lst vs')⟩ m g l d v := fun m g l d v ng z => by
    cases l with
    | zero => exact Fz.le le _ _ z
    | succ l => exact Ow.le (o := .fld m g) le (fun c u w q => ⟨w, (upd_ne fun e => by rw [e, wb] at w; cases w; exact ng ⟨rfl, rfl⟩).trans q⟩) (fun _ _ h => h) z
  refine ⟨⟨sr.len, fun i l d e => ?_, by rw [List.length_set]; exact sr.st, fun m o' e => ?_, fun c o' q => ?_, fun c q => ?_⟩, step_put (by rw [wb]; rfl), le⟩
  · obtain ⟨v, e1, z⟩ := sr.slot i l d e
    exact ⟨v, e1, z.put wb ⟨fun i e => (nomatch e), fun e => (nomatch e)⟩⟩
  · by_cases hm : m = n
    · subst hm
      rw [List.getElem?_set_self (List.getElem?_eq_some_iff.mp h).1] at e
      cases e
      obtain ⟨c, h1, h2, h3, h4, qs, h5, h6⟩ := sr.obj m ob h
      rw [ha] at h1; cases h1
      rw [hp] at h5; cases h5
      refine ⟨a, ha, by rw [setF_names]; exact h2, wa, h4, ps, (upd_ne ne).trans hp, ?_⟩
      exact FsR.upd0 (p := p) (p' := ⟨p.θ, p.W, upd p.H b (.lst vs')⟩) (w := .ref b) (show VF K _ m f 1 (.lst l') (.ref b) from ⟨b, vs', rfl, ⟨wb, upd_same, rfl⟩, FzL.le le _ _ fl'⟩) (fun g l d v ng z => hkeep m g l d v (fun q => ng q.2) z) h6 h2 hv
    · rw [List.getElem?_set_ne (Ne.symm hm)] at e
      obtain ⟨c, h1, h2, h3, h4, qs, h5, h6⟩ := sr.obj m o' e
      have nc : c ≠ b := fun e => by rw [e, wb] at h3; cases h3
      refine ⟨c, h1, h2, h3, h4, qs, (upd_ne nc).trans h5, ?_⟩
      exact FsR.le le (fun c u g w q => ⟨w, (upd_ne fun e => by rw [e, wb] at w; cases w; exact hm rfl).trans q⟩) h6
  · by_cases hc : c = b
    · subst hc; exact ⟨_, upd_same, trivial⟩
    · obtain ⟨u, q', m⟩ := sr.lab c o' q
      exact ⟨u, (upd_ne hc).trans q', m⟩
  · by_cases hc : c = b
    · subst hc; show upd p.H c _ c ≠ none; rw [upd_same]; exact fun z => nomatch z
    · show upd p.H b _ c ≠ none
      rw [upd_ne hc]; exact sr.dom c q
theorem FsR.len {n : Nat} : ∀ {fs : List (List Nat × Nat × D)} {ps : List (Key × V)}, FsR K p n fs ps → ps.length = fs.length
  | [], ps, h => by rw [show ps = [] from h]; rfl
  | (f, l, d) :: r, ps, h => by
    obtain ⟨v, qs, rfl, z, t⟩ := h
    simp [FsR.len t]
/-- a member of an object is given a value anew -/
theorem SR.putF (sr : SR K N p env μ σ) (st : Step p0 p) {n : Nat} {ob : Obj} {f : List Nat} {l0 lv : Nat} {d0 d : D} {v : V} (h : μ[n]? = some ob) (e : getF ob f = some (l0, d0)) (hv : (lv = 0 ∧ Fz K p d v) ∨ (lv = 1 ∧ Ow K p .tmp p0.H d v)) :
    ∃ a ps p', p.θ[n]? = some a ∧ (p.H a = some (.dK ps) ∧ ps.length = ob.fs.length) ∧ ps.any (fun kv => decide (kv.1 = (.inr (toStr f) : Key))) = true ∧ p'.H = upd p.H a (.dK (ps.map fun kv => if kv.1 = (.inr (toStr f) : Key) then (kv.1, v) else kv)) ∧ SR K N p' env (μ.set n (setF ob f (lv, d))) σ ∧ Step p0 p' := by
  obtain ⟨a, ps, v', e1, wa, e2, fs, e3, z⟩ := sr.field h e
  have hany : ps.any (fun kv => decide (kv.1 = (.inr (toStr f) : Key))) = true := by rw [valV_any, e3]; rfl
  -- the labels
  have : ∃ W' : WM, (∀ b, p.W b ≠ some .tmp → W' b = p.W b) ∧ (∀ b, p0.H b ≠ none → W' b = p.W b) ∧ (∀ b o, W' b = some o → p.W b = some o ∨ p.W b = some .tmp) ∧ VF K ⟨p.θ, W', upd p.H a (.dK (ps.map fun kv => if kv.1 = (.inr (toStr f) : Key) then (kv.1, v) else kv))⟩ n f lv d v := by
    have le := le_put (o := HO.dK (ps.map fun kv => if kv.1 = (.inr (toStr f) : Key) then (kv.1, v) else kv)) wa
    rcases hv with ⟨rfl, z⟩ | ⟨rfl, z⟩
    · exact ⟨p.W, fun _ _ => rfl, fun _ _ => rfl, fun _ _ h => .inl h, Fz.le le _ _ z⟩
    · rcases z.cases with ⟨c, z'⟩ | ⟨b, rfl, wb, hb, nb⟩
      · exact ⟨p.W, fun _ _ => rfl, fun _ _ => rfl, fun _ _ h => .inl h, Ow.of_fz c (Fz.le le _ _ z')⟩
      · by_cases hc : isC d = true
        · have ne : b ≠ a := fun e => by rw [e, wa] at wb; cases wb
          have le2 : Le p ⟨p.θ, updW p.W b (some (.fld n f)), upd p.H a (.dK (ps.map fun kv => if kv.1 = (.inr (toStr f) : Key) then (kv.1, .ref b) else kv))⟩ := ⟨fun _ _ h => h, fun c u w q => by
            have n1 : c ≠ a := fun e => by rw [e, wa] at w; cases w
            have n2 : c ≠ b := fun e => by rw [e, wb] at w; cases w
            exact ⟨(updW_ne n2).trans w, (upd_ne n1).trans q⟩⟩
          refine ⟨updW p.W b (some (.fld n f)), fun c hc => updW_ne fun e => hc (e ▸ wb), fun c hc => updW_ne fun e => hc (e ▸ nb), fun c o hc => ?_, z.to hc le2 updW_same (upd_ne ne) rfl⟩
          by_cases e : c = b
          · subst e; exact .inr wb
          · exact .inl ((updW_ne e).symm.trans hc)
        · have hz : Fz K p d (.ref b) := by cases d <;> first | exact z | exact absurd rfl hc
          exact ⟨p.W, fun _ _ => rfl, fun _ _ => rfl, fun _ _ h => .inl h, Ow.of_fz (by cases d <;> first | rfl | exact absurd rfl hc) (Fz.le le _ _ hz)⟩
  obtain ⟨W', w1, w2, w3, hvf⟩ := this
  have le : Le p ⟨p.θ, W', upd p.H a (.dK (ps.map fun kv => if kv.1 = (.inr (toStr f) : Key) then (kv.1, v) else kv))⟩ := ⟨fun _ _ h => h, fun c u w q => by
    have n1 : c ≠ a := fun e => by rw [e, wa] at w; cases w
    exact ⟨(w1 c (by rw [w]; exact fun e => nomatch e)).trans w, (upd_ne n1).trans q⟩⟩
  have wk : ∀ c o, p.W c = some o → o ≠ .tmp → W' c = some o := fun c o w ne => (w1 c (by rw [w]; exact fun e => ne (Option.some.inj e))).trans w
  have ws : ∀ c o u, p.W c = some o → p.H c = some u → o ≠ .tmp → o ≠ .obj n → W' c = some o ∧ upd p.H a (.dK (ps.map fun kv => if kv.1 = (.inr (toStr f) : Key) then (kv.1, v) else kv)) c = some u := fun c o u w q h1 h2 => by
    have n1 : c ≠ a := fun e => by rw [e, wa] at w; cases w; exact h2 rfl
    exact ⟨wk c o w h1, (upd_ne n1).trans q⟩
  refine ⟨a, ps, ⟨p.θ, W', upd p.H a (.dK (ps.map fun kv => if kv.1 = (.inr (toStr f) : Key) then (kv.1, v) else kv))⟩, e1, ⟨e2, fs.len⟩, hany, rfl, ⟨sr.len, fun i l x ex => ?_, by rw [List.length_set]; exact sr.st, fun m o' ex => ?_, fun c o' q => ?_, fun c q => ?_⟩, ⟨st.th, fun c u q t => ?_, fun c q => ?_⟩⟩
  · obtain ⟨w, ew, z⟩ := sr.slot i l x ex
    refine ⟨w, ew, ?_⟩
    have zz : VS K N ⟨p.θ, p.W, upd p.H a (.dK (ps.map fun kv => if kv.1 = (.inr (toStr f) : Key) then (kv.1, v) else kv))⟩ i l x w := z.put wa ⟨fun i e => (nomatch e), fun e => (nomatch e)⟩
    exact VS.re (p := ⟨p.θ, p.W, upd p.H a (.dK (ps.map fun kv => if kv.1 = (.inr (toStr f) : Key) then (kv.1, v) else kv))⟩) (p' := ⟨p.θ, W', upd p.H a (.dK (ps.map fun kv => if kv.1 = (.inr (toStr f) : Key) then (kv.1, v) else kv))⟩) ⟨fun _ _ h => h, fun c u w q => ⟨(w1 c (by rw [show p.W c = none from w]; exact fun e => nomatch e)).trans w, q⟩⟩ (fun c o u w q h1 h2 => ⟨wk c o w h1, q⟩) zz
  · by_cases hm : m = n
    · subst hm
      rw [List.getElem?_set_self (List.getElem?_eq_some_iff.mp h).1] at ex
      cases ex
      obtain ⟨c, h1, h2, h3, h4, qs, h5, h6⟩ := sr.obj m ob h
      rw [e1] at h1; cases h1
      rw [e2] at h5; cases h5
      refine ⟨a, e1, by rw [setF_names]; exact h2, wk a _ wa (fun e => nomatch e), h4, _, upd_same, ?_⟩
      refine FsR.upd1 hvf (fun g l d v ng z => ?_) h6 h2
      cases l with
      | zero => exact Fz.le le _ _ z
      | succ l => exact Ow.le (o := .fld m g) le (fun c u w q => ws c _ u w q (fun e => nomatch e) fun e => nomatch e) (fun _ _ h => h) z
    · rw [List.getElem?_set_ne (Ne.symm hm)] at ex
      obtain ⟨c, h1, h2, h3, h4, qs, h5, h6⟩ := sr.obj m o' ex
      obtain ⟨x, y⟩ := ws c _ _ h3 h5 (fun e => nomatch e) (fun e => hm (by cases e; rfl))
      exact ⟨c, h1, h2, x, h4, qs, y, FsR.le le (fun c u g w q => ws c _ u w q (fun e => nomatch e) fun e => nomatch e) h6⟩
  · by_cases hc : c = a
    · subst hc; exact ⟨_, upd_same, trivial⟩
    · rcases w3 c o' q with q | q
      · obtain ⟨u, q', m⟩ := sr.lab c _ q
        exact ⟨u, (upd_ne hc).trans q', m⟩
      · obtain ⟨u, q', m⟩ := sr.lab c _ q
        exact ⟨u, (upd_ne hc).trans q', m⟩
  · by_cases hc : c = a
    · subst hc; show upd p.H c _ c ≠ none; rw [upd_same]; exact fun z => nomatch z
    · show upd p.H a _ c ≠ none
      rw [upd_ne hc]; exact sr.dom c q
  · obtain ⟨x, y⟩ := st.keep c u q t
    have n1 : c ≠ a := fun e => by
      rw [e] at y
      rw [← e] at y
      rw [← y, e, wa] at t
      cases t
    exact ⟨(upd_ne n1).trans x, (w2 c (by rw [q]; exact fun z => nomatch z)).trans y⟩
  · by_cases hc : c = a
    · subst hc; show upd p.H c _ c ≠ none; rw [upd_same]; exact fun z => nomatch z
    · show upd p.H a _ c ≠ none
      rw [upd_ne hc]; exact st.dom c q
end
end Pv

set_option autoImplicit false
set_option linter.all false
set_option Elab.async false
set_option maxRecDepth 100000
namespace Pv
open PySem PySem.Spec PyProof.Rows L2
section
variable {X : Cx} {N : Hp} {z : Ev} {C : CallFn} {G : String → Option D} {pos pos' p2 : Pos} {e k a tg : Expr} {ea ek : E} {t : T} {es : List Expr} {ees : List E}
theorem Loos.step {p p1 p2 : Ph} (st : Step p p1) (lo : Loos p1 p2) (st' : Step p p2) : Le p1 p2 := lo.le
def rSetP : TSet := fun o i v H Q => rSetL o i v H Q ∨ ∃ a H', o = .ref a ∧ DPut H a i v H' ∧ Q H'
theorem set_P (hu : X.A.units + 1 < cLine) : PSet X rSetP := by
  intro pins s σ H o i v ov iv u Q I ro ri rv h
  rcases h with h | ⟨a, H', rfl, g, q⟩
  · exact set_list pins s σ H o i v ov iv u Q I ro ri rv h
  · obtain rfl : ov = Value.ref a := ro
    exact d_setItem hu I g ri rv fun s' I' => ⟨H', I', q⟩
theorem pvs_setIdx {i : Nat} {x : Str} {npos : Pos} (hu : X.A.units + 1 < cLine) (hN : X.N[i]? = some x) (hv : Vis X.env.scope x) (he : PE X e (tE X.K N ⟨C, G, noX⟩ ea)) (hk : PE X k (tE X.K N ⟨C, G, noX⟩ ek))
    (hs : swapsWithSole [.Subscript (.Name x npos) k pos'] e pos.line X.env = pure false := by rfl) (hw : swappedStores [.Subscript (.Name x npos) k pos'] e X.env = pure none := by rfl)
    (h1 : (assignEach [.Subscript (.Name x npos) k pos'] X.env).map (·.2) = [assign (.Subscript (.Name x npos) k pos') X.env] := by rfl)
    (ha : ∀ v, assign (.Subscript (.Name x npos) k pos') X.env v = (do
      let ov ← holding [v] (eval (.Name x npos) X.env)
      let iv ← holding [v, ov] (eval k X.env)
      standAt pos'
      holding [v, ov, iv] (setItem ov iv v)
      release [v, ov, iv] []) := by intro _; rfl)
    (hd : (x == ("__debug__" : Str)) = false := by decide) (hcd : (x == ("__classdict__" : Str)) = false := by decide) :
    PS X (.Assign [.Subscript (.Name x npos) k pos'] e pos) (tS X.K N C G (.setIdx i ek ea)) := psImp (ps_asg he (pg_sub (pe_var hN hv hd hcd) hk (set_P hu) ha) hs hw h1) fun D σ H h => by
  obtain ⟨p, env, μ, E, rfl, sr, hw, ok⟩ := h
  have hw : wpE C G E.xc ea env μ fun ke x env μ => esc ke env fun env => (∃ q, env[i]? = some (some q)) ∧ wpE C G E.xc ek env μ fun _ y env μ =>
      (∃ d, env[i]? = some (some (1, d)) ∧ setP d y x fun d' => E.nx (env.set i (some (1, d'))) μ) ∨
      (∃ n o f l d, env[i]? = some (some (0, .ref n)) ∧ μ[n]? = some o ∧ o.cls = "dict" ∧ y = .str f ∧ getF o f = some (l, d) ∧ o.fs.length < big ∧ E.nx env (μ.set n (setF o f ((match ke with | .fresh => 1 | _ => 0), x)))) := hw
  rw [ok.xc] at hw
  refine ⟨p, env, μ, _, rfl, sr, hw, fun ke x env1 μ1 p1 v h1 sr1 st1 vr1 => ?_⟩
  -- the value, and what is wanted of it
  have main : ∀ (lv : Nat) (env2 : Env) (p2 : Ph), SR X.K N p2 env2 μ1 σ → Step p p2 → ((lv = 0 ∧ Fz X.K p2 x v) ∨ (lv = 1 ∧ Ow X.K p2 .tmp p.H x v)) → ((∃ q, env2[i]? = some (some q)) ∧ wpE C G noX ek env2 μ1 fun _ y env μ =>
      (∃ d, env[i]? = some (some (1, d)) ∧ setP d y x fun d' => E.nx (env.set i (some (1, d'))) μ) ∨
      (∃ n o f l d, env[i]? = some (some (0, .ref n)) ∧ μ[n]? = some o ∧ o.cls = "dict" ∧ y = .str f ∧ getF o f = some (l, d) ∧ o.fs.length < big ∧ E.nx env (μ.set n (setF o f (lv, x))))) →
      tVar i σ p2.H fun o H2 => tE X.K N ⟨C, G, noX⟩ ek σ H2 fun y H3 => rSetP o y v H3 fun H4 => D.nx σ H4 := by
    intro lv env2 p2 sr2 st2 hv2 ⟨⟨⟨lq, dq⟩, eq⟩, h2⟩
    obtain ⟨w, ew, _⟩ := sr2.slot i lq dq eq
    refine ⟨w, ew, p2, env2, μ1, _, rfl, sr2, h2, fun kk y env3 μ3 p3 yv h3 sr3 st3 vr3 => ?_⟩
    have hv3 : (lv = 0 ∧ Fz X.K p3 x v) ∨ (lv = 1 ∧ Ow X.K p3 .tmp p.H x v) := hv2.imp (fun z => ⟨z.1, Fz.le st3.le _ _ z.2⟩) fun z => ⟨z.1, Ow.le st3.le (fun a u w q => let ⟨x, y⟩ := st3.keep a u q (by rw [w]; rfl); ⟨y.trans w, x⟩) (fun _ _ h => h) z.2⟩
    have ya := vr3.an sr3
    have st := st2.trans st3
    rcases h3 with ⟨d, e1, h3⟩ | ⟨n, o, f, l, d, e1, e2, e3, rfl, e4, hlt, h3⟩
    · -- a list or a dict of its own
      have : ∃ p4, p4.H = p3.H ∧ SR X.K N p4 env3 μ3 σ ∧ Step p p4 ∧ Fz X.K p4 x v := by
        rcases hv3 with ⟨_, z⟩ | ⟨_, z⟩
        · exact ⟨p3, rfl, sr3, st, z⟩
        · obtain ⟨e', p4, hr, hh, lo, sr4, st4, fz⟩ := esc_ok (k := .fresh) (R := fun e => e = env3) sr3 st z rfl
          subst hr
          exact ⟨p4, hh, sr4, st4, fz⟩
      obtain ⟨p4, hh, sr4, st4, fz⟩ := this
      unfold setP at h3
      rw [← hh]
      split at h3
      · rename_i l' ii
        obtain rfl : yv = .int ii := ya
        obtain ⟨m, ⟨r1, r2, rfl⟩, hm, h3⟩ := h3
        obtain ⟨b, vs, ev, wb, hb, nb, fl⟩ := sr4.owns e1
        rw [ew] at ev; cases ev
        have hm' : ii.toNat < vs.length := by rw [← fl.length]; exact hm
        refine .inl ⟨b, vs, ii, ii.toNat, rfl, rfl, hb, ?_, ?_⟩
        · show (if 0 ≤ ii then (if ii < (vs.length : Int) then some ii.toNat else none) else _) = some ii.toNat
          rw [if_pos r1, if_pos (by omega)]
        · have le := le_put (o := .lst (vs.set ii.toNat v)) wb
          have hi : i < env3.length := (List.getElem?_eq_some_iff.mp e1).1
          obtain ⟨s1, s2, s3⟩ := sr4.put (o := .lst (vs.set ii.toNat v)) (d' := .lst (l'.set ii.toNat x)) hi wb trivial ew ⟨b, _, rfl, ⟨wb, upd_same, nb⟩, FzL.le le _ _ (FzL.set fz ii.toNat fl)⟩
          exact ok.nx _ μ3 ⟨p4.θ, p4.W, upd p4.H b (.lst (vs.set ii.toNat v))⟩ σ h3 s1 (st4.trans s2)
      · rename_i kvs
        obtain ⟨kx, hl, h3⟩ := h3
        obtain ⟨q, hq⟩ := isKey_of kx
        have ey := key_an hq ya
        obtain ⟨b, ps, ev, wb, hb, nb, fl⟩ := sr4.ownsD e1
        rw [ew] at ev; cases ev
        refine .inr ⟨b, upd p4.H b (.dK (putK ps q v)), rfl, .inl ⟨ps, q, hb, ey, by rw [← fl.length]; exact hl, rfl⟩, ?_⟩
        have le := le_put (o := .dK (putK ps q v)) wb
        have hi : i < env3.length := (List.getElem?_eq_some_iff.mp e1).1
        obtain ⟨s1, s2, s3⟩ := sr4.put (o := .dK (putK ps q v)) (d' := .dic (dput kvs y x)) hi wb trivial ew ⟨b, _, rfl, ⟨wb, upd_same, nb⟩, FzKV.le le _ _ (FzKV.put hq fz fl)⟩
        exact ok.nx _ μ3 ⟨p4.θ, p4.W, upd p4.H b (.dK (putK ps q v))⟩ σ h3 s1 (st4.trans s2)
      · exact h3.elim
    · -- a member of an object
      obtain rfl : yv = .str (toStr f) := ya
      obtain ⟨w', ew', ⟨b, eb, rfl⟩⟩ := sr3.slot i 0 _ e1
      rw [ew] at ew'; cases ew'
      obtain ⟨b', ps, p4, h1, ⟨h2, h6⟩, h4, h5, s1, s2⟩ := sr3.putF st e2 e4 hv3
      rw [eb] at h1; cases h1
      refine .inr ⟨b, upd p3.H b (.dK (putK ps (.inr (toStr f)) v)), rfl, .inl ⟨ps, .inr (toStr f), h2, rfl, ?_, rfl⟩, ?_⟩
      · rw [h6]; exact hlt
      · have e5 : putK ps (.inr (toStr f)) v = ps.map fun kv => if kv.1 = (.inr (toStr f) : Key) then (kv.1, v) else kv := by
          unfold putK
          rw [if_pos h4]
        rw [e5, ← h5]
        exact ok.nx _ _ p4 σ h3 s1 s2
  cases ke with
  | fz => exact main 0 env1 p1 sr1 st1 (.inl ⟨rfl, vr1⟩) h1
  | fresh => exact main 1 env1 p1 sr1 st1 (.inr ⟨rfl, vr1⟩) h1
  | bor j =>
    obtain ⟨env2, p2, h2, hh, lo, sr2, st2, fz⟩ := esc_ok sr1 st1 vr1 h1
    rw [← hh]
    exact main 0 env2 p2 sr2 st2 (.inl ⟨rfl, fz⟩) h2
  | borF n f => exact h1.elim
/-! ### name += int -/
theorem pvs_aug_ {i : Nat} {x : Str} {op : BOp} {f : Int → Int → Int} (hop : ∀ (a b : Int) (R : D → Prop), bin op (.int a) (.int b) R → R (.int (f a b))) (hN : X.N.Nodup) (hi : X.N[i]? = some x) (hx : Loc X.env.scope x) (he : PE X e (tE X.K N ⟨C, G, noX⟩ ea)) (ho : PIp X (opOf op) (ipI f))
    (hf : X.fn x = true ∨ X.env.scope.names.lookup x = some .local := by first | exact .inl rfl | exact .inr rfl | assumption) : PS X (.AugAssign (.Name x pos') (opOf op) e pos) (tS X.K N C G (.aug i op ea)) := psImpI (ps_aug hN hi hx he ho hf) fun D σ H hlen h => by
  obtain ⟨p, env, μ, E, rfl, sr, ⟨d, e1, hw⟩, ok⟩ := h
  rw [ok.xc] at hw
  obtain ⟨v, ev, z⟩ := sr.slot i 0 d e1
  refine ⟨v, ev, p, env, μ, _, rfl, sr, hw, fun k y env1 μ1 p1 w h1 sr1 st1 vr1 => ?_⟩
  obtain ⟨⟨a, b, rfl, rfl⟩, h1⟩ := h1
  obtain rfl : v = .int a := z
  obtain rfl : w = .int b := vr1.an sr1
  refine ⟨a, b, rfl, rfl, ?_⟩
  have hi' : i < env1.length := by rw [sr1.len, hlen]; exact (List.getElem?_eq_some_iff.mp hi).1
  exact ok.nx _ μ1 p1 _ (hop a b _ h1) (sr1.set0 hi' rfl) st1
theorem pvs_augAdd {i : Nat} {x : Str} (hN : X.N.Nodup) (hi : X.N[i]? = some x) (hx : Loc X.env.scope x) (he : PE X e (tE X.K N ⟨C, G, noX⟩ ea))
    (hf : X.fn x = true ∨ X.env.scope.names.lookup x = some .local := by first | exact .inl rfl | exact .inr rfl | assumption) : PS X (.AugAssign (.Name x pos') .Add e pos) (tS X.K N C G (.aug i .add ea)) :=
  pvs_aug_ (op := .add) (fun _ _ _ h => h) hN hi hx he ip_add hf
theorem pvs_augSub {i : Nat} {x : Str} (hN : X.N.Nodup) (hi : X.N[i]? = some x) (hx : Loc X.env.scope x) (he : PE X e (tE X.K N ⟨C, G, noX⟩ ea))
    (hf : X.fn x = true ∨ X.env.scope.names.lookup x = some .local := by first | exact .inl rfl | exact .inr rfl | assumption) : PS X (.AugAssign (.Name x pos') .Sub e pos) (tS X.K N C G (.aug i .sub ea)) :=
  pvs_aug_ (op := .sub) (fun _ _ _ h => h) hN hi hx he ip_sub hf
/-! ### constants of the module -/
theorem pv_glob {x : Str} {n : String} {v : V} {u : Value} {d : D} (hg : Gl X x) (hm : X.mg x = some u) (r : RelV v u) (hG : z.G n = some d) (hv : ∀ p, Fz X.K p d v) (hd : (x == ("__debug__" : Str)) = false := by decide) : PE X (.Name x pos) (tE X.K N z (.glob n)) :=
  peImp (pe_glob hg hm r hd) fun σ H Q h => by
    obtain ⟨p, env, μ, Po, rfl, sr, ⟨d', e, hw⟩, post⟩ := h
    rw [hG] at e; cases e
    exact post .fz d env μ p v hw sr .refl (hv p)
/-! ### d.get -/
theorem dget_val {K : PySem.W.Frag} {p : Ph} {kvs : List (D × D)} {ps : List (Key × V)} {y d0 : D} {q : Key} {v0 : V} (h : FzKV K p kvs ps) (hq : keyV y = some q) (hz : Fz K p d0 v0) : Fz K p ((dget kvs y).getD d0) ((valV ps q).getD v0) := by
  obtain ⟨f1, f2⟩ := h.find hq
  cases e : dget kvs y with
  | none => rw [f2 e]; exact hz
  | some d =>
    obtain ⟨w, ew, zw⟩ := f1 d e
    rw [ew]; exact zw
theorem pv_dget {apos cpos : Pos} (hu : X.A.units + 1 < cLine) (ha : PE X a (tE X.K N z ea)) (hk : PE X k (tE X.K N z ek)) (m : M1 X a "get" apos k cpos) : PE X (.Call (.Attribute a "get" apos) [k] [] cpos) (tE X.K N z (.dget ea ek)) :=
  peImp (pe_dget1 hu ha hk m) fun σ H Q h => by
    obtain ⟨p, env, μ, Po, rfl, sr, hw, post⟩ := h
    refine ⟨p, env, μ, _, rfl, sr, hw, fun ka x env1 μ1 p1 v h1 sr1 st1 vr1 => ?_⟩
    obtain ⟨kvs, rfl, h1⟩ := h1
    obtain ⟨b, ps0, rfl, rd0, _⟩ := vr1.an sr1
    refine ⟨b, rfl, .inl ⟨ps0, rd0⟩, p1, env1, μ1, _, rfl, sr1, h1, fun kk y env2 μ2 p2 w h2 sr2 st2 vr2 => ?_⟩
    obtain ⟨kp, kx, h2⟩ := h2
    obtain ⟨q, hq⟩ := isKey_of kx
    have ey := key_an hq (vr2.an sr2)
    obtain ⟨b', ps, eb, rd, fl⟩ := vr1.later st2 sr2 kp
    cases eb
    exact ⟨valV ps q, .inl ⟨ps, q, rd, ey, rfl⟩, post .fz _ env2 μ2 p2 _ h2 sr2 (st1.trans st2) (dget_val fl hq rfl)⟩
theorem pv_dget2 {f : Expr} {ef : E} {apos cpos : Pos} (hu : X.A.units + 1 < cLine) (ha : PE X a (tE X.K N z ea)) (hk : PE X k (tE X.K N z ek)) (hf : PE X f (tE X.K N z ef)) (m : M2 X a "get" apos k f cpos) : PE X (.Call (.Attribute a "get" apos) [k, f] [] cpos) (tE X.K N z (.dget2 ea ek ef)) :=
  peImp (pe_dget2 hu ha hk hf m) fun σ H Q h => by
    obtain ⟨p, env, μ, Po, rfl, sr, hw, post⟩ := h
    refine ⟨p, env, μ, _, rfl, sr, hw, fun ka x env1 μ1 p1 v h1 sr1 st1 vr1 => ?_⟩
    obtain ⟨kvs, rfl, h1⟩ := h1
    obtain ⟨b, ps0, rfl, rd0, _⟩ := vr1.an sr1
    refine ⟨b, rfl, .inl ⟨ps0, rd0⟩, p1, env1, μ1, _, rfl, sr1, h1, fun kk y env2 μ2 p2 w h2 sr2 st2 vr2 => ⟨p2, env2, μ2, _, rfl, sr2, h2, fun kd dv env3 μ3 p3 w3 h3 sr3 st3 vr3 => ?_⟩⟩
    obtain ⟨env4, p4, h4, hh, lo, sr4, st4, fz⟩ := esc_ok sr3 st3 vr3 h3
    obtain ⟨kp, kx, h4⟩ := h4
    obtain ⟨q, hq⟩ := isKey_of kx
    have ey := key_an hq (vr2.an sr2)
    obtain ⟨b', ps, eb, rd, fl⟩ := vr1.later (st2.trans st4) sr4 kp
    cases eb
    rw [← hh]
    exact ⟨valV ps q, .inl ⟨ps, q, rd, ey, rfl⟩, post .fz _ env4 μ3 p4 _ h4 sr4 (st1.trans (st2.trans st4)) (dget_val fl hq fz)⟩
/-! ### a list of a member of an object is changed -/
theorem pv_mutF {m : Mu} {i j : Nat} {x name fs : Str} {f : List Nat} {npos kpos apos cpos : Pos} (slot : Slot "list" name (muId m)) (hty : typeOf (.builtin (muId m)) = pure (.type "method_descriptor")) (hu : X.A.units + 1 < cLine) (hN : X.N[i]? = some x) (hv : Vis X.env.scope x) (hf : fs.cps.toList = f)
    (hbase : attributeBase (.Subscript (.Name x npos) (.Constant (.str fs) j kpos) p2) name X.env (eval (.Subscript (.Name x npos) (.Constant (.str fs) j kpos) p2) X.env) = eval (.Subscript (.Name x npos) (.Constant (.str fs) j kpos) p2) X.env := by rfl) (hline : (apos.endLine == cpos.line) = true := by rfl)
    (hpl : PlainIx (.Constant (.str fs) j kpos)) (hd : (x == ("__debug__" : Str)) = false := by decide) (hcd : (x == ("__classdict__" : Str)) = false := by decide) :
    PE X (.Call (.Attribute (.Subscript (.Name x npos) (.Constant (.str fs) j kpos) p2) name apos) [] [] cpos) (tE X.K N z (.mutF m i f)) := by
  have ho : PE X (.Subscript (.Name x npos) (.Constant (.str fs) j kpos) p2) (tE X.K N z (.idx (.var i) (.lit (.str f)))) := pv_idx hu (pv_var hN hv hd hcd) (pv_str hf) hpl
  refine peImp (pe_bm0 PySem.F.plainAttrs_list slot hty (mt_mu m) ho hbase hline) fun σ H Q h => ?_
  obtain ⟨p, env, μ, Po, rfl, sr, hw, post⟩ := h
  obtain ⟨n, ob, l, e1, e2, e3, e4, h1⟩ := hw
  refine ⟨p, env, μ, fun k d env' μ' => k = .borF n f ∧ d = .lst l ∧ env' = env ∧ μ' = μ, rfl, sr, ?_, fun k d env1 μ1 p1 v h2 sr1 st1 vr1 => ?_⟩
  · refine ⟨0, .ref n, e1, trivial, ob, 1, .lst l, e2, e3, e4, rfl, rfl, rfl, rfl⟩
  · obtain ⟨rfl, rfl, rfl, rfl⟩ := h2
    obtain ⟨o', l0, q1, q2, a, ps, q3, q4, q5⟩ := vr1
    rw [e2] at q1; cases q1
    rw [e4] at q2
    obtain ⟨a2, ps2, v2, r1, r2, r3, r4, r5, r6⟩ := sr1.field e2 e4
    rw [q3] at r1; cases r1
    rw [q4] at r3; cases r3
    rw [q5] at r5; cases r5
    obtain ⟨b, vs0, rfl, _⟩ := id r6
    obtain ⟨vs, hb, fl, put⟩ := sr1.putM (l' := l) e2 e4 q3 q4 q5
    have wb : p1.W b ≠ none := by
      obtain ⟨b', vs', eb, ⟨wb, _, _⟩, _⟩ := r6
      cases eb
      rw [wb]; exact fun z => nomatch z
    refine ⟨.inl ⟨rfl, vs, .inl (.inl hb)⟩, p1, b, l, vs, [], _, rfl, rfl, hb, fl, rfl, h1, wb, fun l' r vs' v hr fl' fr => ?_⟩
    obtain ⟨vs2, hb2, _, put⟩ := sr1.putM (l' := l') e2 e4 q3 q4 q5
    obtain ⟨s1, s2, s3⟩ := put vs' fl'
    exact post .fz r _ _ _ v hr s1 (st1.trans s2) (Fz.le s3 _ _ fr)
end
end Pv

set_option autoImplicit false
set_option linter.all false
set_option Elab.async false
set_option maxRecDepth 100000
namespace Pv
open PySem PySem.Spec PyProof.Rows L2
/-! ### what a def promises -/
abbrev SpG := List V → Hp → VK → Prop
def noCX : CXT := fun _ _ _ _ _ _ => False
structure FnG (P : Program) (w : World) (K : PySem.W.Frag) (mg : Str → Option Value) (base : Heap) (k : Nat) (fa : Addr) (fd : FuncData) (ps : List Str) (sp : SpG) : Prop where
  len : ∀ vs H Q, sp vs H Q → vs.length = ps.length
  run : ∀ (A : Around) (ou : List PySem.Env) (s : Shared) (H : Hp) (ar : Args) (us : List Value) (vs : List V) (Q : VK), Room k A → A.guards = some [] → Env0 P w K mg base A ou s H →
    BindsTo s fd ar (ps.zip us) → Vals vs us → sp vs H Q → codeAny (model P w) A (.call (.ref fa) ar) (fun r s' => ∃ u, r = .ok (.ret u) ∧ CE ou P w H s Q u s') s
theorem fnG_of {P : Program} {w : World} {K : PySem.W.Frag} {mg : Str → Option Value} {base : Heap} {k : Nat} {fa : Addr} {nm ql : Str} {pa : Arguments} {body : List Stmt} {scp : Scope} {dV kV dc pm cd ct oc : Value} {an od : Option Addr} {osl : Array (Option Value)}
    {N ps : List Str} {sp : SpG} (lk : K.lookup fa = some ⟨oc, od, .func (PySem.W.fnOf nm ql pa body scp dV kV dc pm an cd ct), osl⟩) (hcd : PySem.W.codeIn K cd ql = true) (S : FnScope N ps scp)
    (hlen : ∀ vs H Q, sp vs H Q → vs.length = ps.length)
    (hb : ∀ (A : Around) (ou : List PySem.Env) (s : Shared) (H : Hp) (vs : List V) (Q : VK), Room k (A.deeper (envOfC ql scp s.heap.objs.size fa cd)) → A.guards = some [] → sp vs H Q →
      ∃ t, PSs (cxOf noCX P w K mg base N ql scp fa cd A ou s H fun _ _ _ => False) body t ∧ t { nx := fun _ H' => Q .non H', rt := Q } (L2.start N vs) H) :
    FnG P w K mg base (k + 1) fa (PySem.W.fnOf nm ql pa body scp dV kV dc pm an cd ct) ps sp := by
  constructor
  · exact hlen
  intro A ou s H ar us vs Q room gd e0 bnd rel hsp
  have kin : K.In s.heap := e0.mod.kin.keeps fun a o q => (e0.bs a o q).1
  have nolim : s.heap.NoLimit := e0.mod.nolimit.keeps fun a o q => (e0.bs a o q).1
  have places : ∀ y ∈ ps.zip us, scp.names.lookup y.1 = some .local ∨ (scp.names.lookup y.1 = some .cell ∧ ((cellsFrom (s.heap.objs.size + 1) scp.names []).lookup y.1).isSome = true) := by
    rintro ⟨n, v⟩ hy
    rcases S.par n (List.of_mem_zip hy).1 with z | z
    · exact .inl z
    · exact .inr ⟨z, PySem.W.cellsFrom_some _ _ _ (.inl z)⟩
  apply codeAny_call_function room.depth (kin _ _ lk) rfl S.co S.gen rfl (PySem.W.codeRec_of kin hcd)
  apply bnd
  apply wpAny_newFunctionEnv_cells S.kind places
  rintro env rfl s1 ic
  refine ⟨nolim.keeps ic.toInCall.keep, codeAny_func ?_⟩
  obtain ⟨t, run, rd⟩ := hb A ou s H vs Q (room.deeper _) gd hsp
  have inv : Inv (cxOf noCX P w K mg base N ql scp fa cd A ou s H fun _ _ _ => False) [] (L2.start N vs) H s1 := inv_start S room.hd e0 (hlen _ _ _ hsp) rel ic
  have done : ∀ {σ' : L2.St} {H' : Hp} {v : V} {u : Value} {s' : Shared}, Inv (cxOf noCX P w K mg base N ql scp fa cd A ou s H fun _ _ _ => False) [] σ' H' s' → RelV v u → Q v H' → ∃ u', (Except.ok (Flow.ret u) : Result) = .ok (.ret u') ∧ CE ou P w H s Q u' s' :=
    fun {σ' H' v u s'} J r q => ⟨u, rfl, v, H', J.os, J.bare, J.base, J.hok, r, q⟩
  apply wpAny_mono (run.run [] s1 _ H _ inv rd)
  · intro fl s' hs
    cases fl with
    | next => obtain ⟨σ', H', J, q⟩ := hs; exact done (v := V.non) (u := Value.none) J rfl q
    | brk => obtain ⟨_, _, _, q⟩ := hs; exact q.elim
    | cont => obtain ⟨_, _, _, q⟩ := hs; exact q.elim
    | ret u => obtain ⟨v, σ', H', J, r, q⟩ := hs; exact done J r q
  · intro e s' hs
    exact wpAny_mono hs (fun _ _ z => z.elim) fun _ _ z => z.elim
end Pv

set_option autoImplicit false
set_option linter.all false
set_option Elab.async false
set_option maxRecDepth 100000
namespace Pv
open PySem PySem.Spec PyProof.Rows L2
open Classical in
section
variable {K : PySem.W.Frag} {N : Hp} {p p' pc : Ph} {env envc : Env} {μ μ' : Store} {σ σc : L2.St}
/-! ### a caller's view, a callee's view -/
def mine : Option Own → Bool
  | some (.slot _) => true
  | some .tmp => true
  | some .far => true
  | some .lent => true
  | _ => false
def conv : Option Own → Option Own
  | some (.slot _) => some .tmp
  | some .lent => some .far
  | o => o
/-- an argument that is looked at alone -/
def La (K : PySem.W.Frag) (p : Ph) : D → V → Prop
  | .lst l, v => ∃ a vs, v = .ref a ∧ ((p.W a = none ∨ mine (p.W a) = true) ∧ Rd p.H a (.lst vs)) ∧ FzL K p l vs
  | .dic l, v => ∃ a ps, v = .ref a ∧ ((p.W a = none ∨ mine (p.W a) = true) ∧ Rd p.H a (.dK ps)) ∧ FzKV K p l ps
  | d, v => Fz K p d v
def ArgR (K : PySem.W.Frag) (p : Ph) : Bool → D → V → Prop
  | false, d, v => Fz K p d v
  | true, d, v => La K p d v
def ArgsR (K : PySem.W.Frag) (p : Ph) : List Bool → List D → List V → Prop
  | [], [], vs => vs = []
  | l :: ls, d :: ds, vs => ∃ v ws, vs = v :: ws ∧ ArgR K p l d v ∧ ArgsR K p ls ds ws
  | _, _, _ => False
theorem ArgsR.get : ∀ {ls : List Bool} {ds : List D} {vs : List V}, ArgsR K p ls ds vs → (ls.length = ds.length ∧ vs.length = ds.length) ∧ ∀ (i : Nat) (l : Bool) (d : D), ls[i]? = some l → ds[i]? = some d → ∃ v, vs[i]? = some v ∧ ArgR K p l d v
  | [], [], vs, h => by rw [show vs = [] from h]; exact ⟨⟨rfl, rfl⟩, fun i l d e => by simp at e⟩
  | l :: ls, d :: ds, vs, h => by
    obtain ⟨v, ws, rfl, a, t⟩ := h
    obtain ⟨⟨h1, h2⟩, h3⟩ := t.get
    refine ⟨⟨by simp [h1], by simp [h2]⟩, fun i l' d' e1 e2 => ?_⟩
    cases i with
    | zero =>
      simp at e1 e2; subst e1 e2
      exact ⟨v, rfl, a⟩
    | succ i =>
      obtain ⟨w, e, z⟩ := h3 i l' d' (by simpa using e1) (by simpa using e2)
      exact ⟨w, by simpa using e, z⟩
  | [], _ :: _, vs, h => h.elim
  | _ :: _, [], vs, h => h.elim
/-- the callee's view -/
noncomputable def pcOf (p : Ph) (vs : List V) : Ph := ⟨p.θ, fun a => if mine (p.W a) = true then (if V.ref a ∈ vs then some .lent else some .far) else p.W a, p.H⟩
theorem pc_le {vs : List V} : Le p (pcOf p vs) := ⟨fun _ _ h => h, fun a u w q => ⟨by show (if mine (p.W a) = true then _ else p.W a) = none; rw [w]; rfl, q⟩⟩
theorem pc_lent {vs : List V} {a : Addr} (h : p.W a = none ∨ mine (p.W a) = true) (hv : V.ref a ∈ vs) : (pcOf p vs).W a = none ∨ (pcOf p vs).W a = some .lent := by
  show (if mine (p.W a) = true then (if V.ref a ∈ vs then some Own.lent else some Own.far) else p.W a) = none ∨ (if mine (p.W a) = true then (if V.ref a ∈ vs then some Own.lent else some Own.far) else p.W a) = some .lent
  rcases h with h | h
  · left; rw [h]; rfl
  · right; rw [if_pos h, if_pos hv]
theorem La.ct {vs : List V} {d : D} {v : V} (h : La K p d v) (hv : v ∈ vs) : Ct K (pcOf p vs) d v := by
  cases d with
  | lst l => obtain ⟨a, us, rfl, ⟨w, r⟩, f⟩ := h; exact ⟨a, us, rfl, ⟨pc_lent w hv, r⟩, FzL.le pc_le _ _ f⟩
  | dic l => obtain ⟨a, us, rfl, ⟨w, r⟩, f⟩ := h; exact ⟨a, us, rfl, ⟨pc_lent w hv, r⟩, FzKV.le pc_le _ _ f⟩
  | tup l => exact Fz.le (K := K) pc_le (.tup l) v h
  | ref n => exact Fz.le (K := K) pc_le (.ref n) v h
  | _ => exact h
theorem pc_obj {vs : List V} {a : Addr} {n : Nat} : p.W a = some (.obj n) → (pcOf p vs).W a = some (.obj n) := fun h => by
  show (if mine (p.W a) = true then _ else p.W a) = _
  rw [h]; rfl
theorem pc_fld {vs : List V} {a : Addr} {n : Nat} {f : List Nat} : p.W a = some (.fld n f) → (pcOf p vs).W a = some (.fld n f) := fun h => by
  show (if mine (p.W a) = true then _ else p.W a) = _
  rw [h]; rfl
theorem start_get {fd : FD} {ds : List D} {i l : Nat} {d : D} (h : (start fd ds)[i]? = some (some (l, d))) (hl : ds.length = fd.lent.length) : ∃ b, fd.lent[i]? = some b ∧ ds[i]? = some d ∧ l = if b = true then 2 else 0 := by
  unfold start at h
  have hz : (List.zipWith (fun (l : Bool) d => (some (if l = true then 2 else 0, d) : Option (Nat × D))) fd.lent ds).length = fd.lent.length := by rw [List.length_zipWith]; omega
  by_cases hi : i < fd.lent.length
  · rw [List.getElem?_append_left (by rw [hz]; exact hi), List.getElem?_zipWith, List.getElem?_eq_getElem hi, List.getElem?_eq_getElem (by omega : i < ds.length)] at h
    have h : (some (some (if fd.lent[i] = true then 2 else 0, ds[i])) : Option (Option (Nat × D))) = some (some (l, d)) := h
    injection h with h
    injection h with h
    injection h with h1 h2
    refine ⟨fd.lent[i], List.getElem?_eq_getElem hi, ?_, h1.symm⟩
    rw [List.getElem?_eq_getElem (by omega), h2]
  · rw [List.getElem?_append_right (by rw [hz]; omega), List.getElem?_replicate] at h
    split at h <;> cases h
theorem view_in {fd : FD} {Ns : List Str} {ds : List D} {vs : List V} (sr : SR K N p env μ σ) (h : ArgsR K p fd.lent ds vs) (hn : fd.n = Ns.length) (hle : fd.lent.length ≤ fd.n) : SR K p.H (pcOf p vs) (start fd ds) μ (L2.start Ns vs) := by
  obtain ⟨⟨h1, h2⟩, h3⟩ := h.get
  refine ⟨?_, fun i l d e => ?_, sr.st, fun n o e => ?_, fun a o e => ?_, fun a q => q⟩
  · unfold start L2.start
    rw [List.length_append, List.length_append, List.length_zipWith, List.length_map, List.length_replicate, List.length_replicate]
    omega
  · obtain ⟨b, e1, e2, el⟩ := start_get e h1.symm
    obtain ⟨v, ev, z⟩ := h3 i b d e1 e2
    refine ⟨v, ?_, ?_⟩
    · unfold L2.start
      have hi : i < vs.length := (List.getElem?_eq_some_iff.mp ev).1
      rw [List.getElem?_append_left (by rw [List.length_map]; exact hi), List.getElem?_map, ev]; rfl
    · cases b with
      | false =>
        obtain rfl : l = 0 := by simpa using el
        exact Fz.le pc_le _ _ z
      | true =>
        obtain rfl : l = 2 := by simpa using el
        exact La.ct z (List.mem_of_getElem? ev)
  · obtain ⟨a, q1, q2, q3, q4, ps, q5, q6⟩ := sr.obj n o e
    exact ⟨a, q1, q2, pc_obj q3, q4, ps, q5, FsR.le pc_le (fun c u f w q => ⟨pc_fld w, q⟩) q6⟩
  · have e : (if mine (p.W a) = true then (if V.ref a ∈ vs then some Own.lent else some Own.far) else p.W a) = some o := e
    by_cases hm : mine (p.W a) = true
    · cases hw : p.W a with
      | none => rw [hw] at hm; cases hm
      | some w => exact sr.lab a w hw
    · rw [if_neg hm] at e
      exact sr.lab a o e
/-- the caller's view of the end -/
noncomputable def prOf (p p' : Ph) : Ph := ⟨p'.θ, fun a => if mine (p.W a) = true then p.W a else conv (p'.W a), p'.H⟩
theorem mine_keep {vs : List V} (sr : SR K N p env μ σ) (st : Step (pcOf p vs) p') {a : Addr} (hm : mine (p.W a) = true) : (∀ u, p.H a = some u → p'.H a = some u) ∧ (p'.W a = some .lent ∨ p'.W a = some .far) := by
  have hw : (pcOf p vs).W a = some .lent ∨ (pcOf p vs).W a = some .far := by
    show (if mine (p.W a) = true then (if V.ref a ∈ vs then some Own.lent else some Own.far) else p.W a) = _ ∨ (if mine (p.W a) = true then (if V.ref a ∈ vs then some Own.lent else some Own.far) else p.W a) = _
    rw [if_pos hm]
    split
    · exact .inl rfl
    · exact .inr rfl
  have hs : stay ((pcOf p vs).W a) = true := by rcases hw with h | h <;> rw [h] <;> rfl
  have hh : ∃ u, p.H a = some u := by
    cases q : p.W a with
    | none => rw [q] at hm; cases hm
    | some w => obtain ⟨u, e, _⟩ := sr.lab a w q; exact ⟨u, e⟩
  refine ⟨fun u e => (st.keep a u e hs).1, ?_⟩
  obtain ⟨u, e⟩ := hh
  rw [(st.keep a u e hs).2]; exact hw
theorem pr_le {vs : List V} (sr : SR K N p env μ σ) (st : Step (pcOf p vs) p') : Le p' (prOf p p') := ⟨fun _ _ h => h, fun a u w q => by
  refine ⟨?_, q⟩
  show (if mine (p.W a) = true then p.W a else conv (p'.W a)) = none
  by_cases hm : mine (p.W a) = true
  · rcases (mine_keep sr st hm).2 with h | h <;> rw [w] at h <;> cases h
  · rw [if_neg hm, w]; rfl⟩
theorem pr_stay {vs : List V} (sr : SR K N p env μ σ) (st : Step (pcOf p vs) p') : Step p (prOf p p') := by
  refine ⟨fun n a h => st.th n a h, fun a o q t => ?_, fun a q => st.dom a q⟩
  show p'.H a = some o ∧ (if mine (p.W a) = true then p.W a else conv (p'.W a)) = p.W a
  by_cases hm : mine (p.W a) = true
  · rw [if_pos hm]; exact ⟨(mine_keep sr st hm).1 o q, rfl⟩
  · rw [if_neg hm]
    have hw : p.W a = none := by
      cases e : p.W a with
      | none => rfl
      | some w => rw [e] at t hm; cases w <;> first | exact absurd rfl hm | cases t
    have hc : (pcOf p vs).W a = none := by
      show (if mine (p.W a) = true then _ else p.W a) = none
      rw [if_neg hm, hw]
    obtain ⟨x, y⟩ := st.keep a o q (by rw [hc]; rfl)
    exact ⟨x, by rw [y, hc, hw]; rfl⟩
theorem view_out {vs : List V} (sr : SR K N p env μ σ) (st : Step (pcOf p vs) p') (sr' : SR K p.H p' envc μ' σc) : SR K N (prOf p p') env μ' σ := by
  have le : Le p (prOf p p') := (pr_stay sr st).le
  have le' := pr_le sr st
  have mineW : ∀ a w, p.W a = some w → mine (some w) = true → (prOf p p').W a = some w := fun a w h hm => by
    show (if mine (p.W a) = true then p.W a else conv (p'.W a)) = some w
    rw [if_pos (by rw [h]; exact hm), h]
  have othW : ∀ a w, p'.W a = some w → conv (some w) = some w → w ≠ .lent → w ≠ .far → (prOf p p').W a = some w := fun a w h hc hx1 hx2 => by
    show (if mine (p.W a) = true then p.W a else conv (p'.W a)) = some w
    by_cases hm : mine (p.W a) = true
    · exfalso
      rcases (mine_keep sr st hm).2 with q | q <;> rw [h] at q <;> cases q
      · exact hx1 rfl
      · exact hx2 rfl
    · rw [if_neg hm, h, hc]
  refine ⟨sr.len, fun i l d e => ?_, sr'.st, fun n o e => ?_, fun a o e => ?_, fun a q => sr'.dom a (sr.dom a q)⟩
  · obtain ⟨v, ev, z⟩ := sr.slot i l d e
    refine ⟨v, ev, ?_⟩
    match l, z with
    | 0, z => exact Fz.le le _ _ z
    | 1, z => exact Ow.le (o := .slot i) le (fun a u w q => ⟨mineW a _ w rfl, (mine_keep sr st (by rw [w]; rfl)).1 u q⟩) (fun _ _ h => h) z
    | l + 2, z =>
      have z : Ct K p d v := z
      show Ct K _ d v
      have rd : ∀ b u, (p.W b = none ∨ p.W b = some .lent) → Rd p.H b u → ((prOf p p').W b = none ∨ (prOf p p').W b = some .lent) ∧ Rd (prOf p p').H b u := fun b u w r => by
        rcases w with w | w
        · obtain ⟨x, y⟩ := le.rd w r
          exact ⟨.inl x, y⟩
        · refine ⟨.inr (mineW b _ w rfl), ?_⟩
          have mk := (mine_keep sr st (a := b) (by rw [w]; rfl)).1
          exact r.imp (fun r => mk _ r) fun ⟨o, r⟩ => ⟨o, mk _ r⟩
      cases d with
      | lst y => obtain ⟨b, vs, e, ⟨w, q⟩, f⟩ := z; obtain ⟨w', q'⟩ := rd b _ w q; exact ⟨b, vs, e, ⟨w', q'⟩, FzL.le le _ _ f⟩
      | dic y => obtain ⟨b, vs, e, ⟨w, q⟩, f⟩ := z; obtain ⟨w', q'⟩ := rd b _ w q; exact ⟨b, vs, e, ⟨w', q'⟩, FzKV.le le _ _ f⟩
      | ref n => exact Fz.le (K := K) le (.ref n) v z
      | tup y => exact Fz.le (K := K) le (.tup y) v z
      | _ => exact z
  · obtain ⟨a, q1, q2, q3, q4, ps, q5, q6⟩ := sr'.obj n o e
    refine ⟨a, q1, q2, othW a _ q3 rfl (fun e => nomatch e) (fun e => nomatch e), q4, ps, q5, FsR.le le' (fun c u f w q => ⟨othW c _ w rfl (fun e => nomatch e) (fun e => nomatch e), q⟩) q6⟩
  · have e : (if mine (p.W a) = true then p.W a else conv (p'.W a)) = some o := e
    by_cases hm : mine (p.W a) = true
    · rw [if_pos hm] at e
      obtain ⟨u, q, m⟩ := sr.lab a o e
      exact ⟨u, (mine_keep sr st hm).1 u q, m⟩
    · rw [if_neg hm] at e
      cases hw : p'.W a with
      | none => rw [hw] at e; cases e
      | some w => exact sr'.lab a w hw
/-- a result, as the caller holds it -/
def RC (K : PySem.W.Frag) (p p' : Ph) : Nat → D → V → Prop
  | 0, d, v => Fz K p' d v
  | _, d, v => Ow K p' .tmp p.H d v
theorem ret_out {vs : List V} {l : Nat} {d : D} {v : V} (sr : SR K N p env μ σ) (st : Step (pcOf p vs) p') (h : RV K p.H p' l d v) : RC K p (prOf p p') l d v := by
  have le' := pr_le sr st
  match l, h with
  | 0, h => exact Fz.le le' _ _ h
  | l + 1, h =>
    obtain ⟨o, ho, h⟩ := h
    show Ow K (prOf p p') .tmp p.H d v
    rcases h.cases with ⟨c, z⟩ | ⟨a, rfl, wa, ha, na⟩
    · exact Ow.of_fz c (Fz.le le' _ _ z)
    · by_cases hc : isC d = true
      · refine h.to hc le' ?_ rfl na
        show (if mine (p.W a) = true then p.W a else conv (p'.W a)) = some .tmp
        have hm : ¬ mine (p.W a) = true := fun hm => by
          cases q : p.W a with
          | none => rw [q] at hm; cases hm
          | some w => obtain ⟨u, e, _⟩ := sr.lab a w q; rw [na] at e; cases e
        rw [if_neg hm, wa]
        rcases ho with rfl | ⟨i, rfl⟩ <;> rfl
      · have hz : Fz K p' d (.ref a) := by cases d <;> first | exact h | exact absurd rfl hc
        exact Ow.of_fz (by cases d <;> first | rfl | exact absurd rfl hc) (Fz.le le' _ _ hz)
end
section
/-! ### calls -/
/-- a def's promise, by the names' values at its entry -/
def spD (K : PySem.W.Frag) (Ns : List Str) (C : CallFn) (G : String → Option D) (fd : FD) : SpG := fun vs H Q => vs.length = fd.lent.length ∧ ∃ p ds μ R, p.H = H ∧ SR K H p (start fd ds) μ (L2.start Ns vs) ∧
  wpSs C G fd.body { nx := fun _ μ' => R 0 .non μ', rt := R, bk := fun _ _ => False, ct := fun _ _ => False, xc := noX } (start fd ds) μ ∧
  ∀ l d μ' p' v env' σ', R l d μ' → SR K H p' env' μ' σ' → Step p p' → RV K H p' l d v → Q v p'.H
/-- a name that is called: what comes of it -/
def CallV (X : Cx) (C : CallFn) (f : String) (ls : List Bool) (fa : Addr) : Prop :=
  ∀ (pins : List (Addr × PySem.Obj)) (s : Shared) (σ : L2.St) (N : Hp) (p : Ph) (env : Env) (μ : Store) (us : List Value) (vs : List V) (ds : List D) (R : Nat → D → Store → Prop) (Q : VK), Inv X pins σ p.H s → SR X.K N p env μ σ → Vals vs us → ArgsR X.K p ls ds vs →
    C f ds μ R (fun _ _ => False) → (∀ l d μ' p' v, R l d μ' → SR X.K N p' env μ' σ → Step p p' → RC X.K p p' l d v → Q v p'.H) → wpAny (model X.prog X.w) X.A (call (.ref fa) us) (EP X pins σ Q) X.xe s
variable {X : Cx} {N : Hp} {z : Ev} {C : CallFn} {G : String → Option D}
theorem callV_of {k : Nat} {fa : Addr} {fdt : FuncData} {ps : List Str} {Ns : List Str} {P : Prog} {d : Nat} {f : String} {fd : FD} (F : FnG X.prog X.w X.K X.mg X.base k fa fdt ps (spD X.K Ns (callN P d) P.gl fd)) (hr : Room k X.A) (hg : X.A.guards = some []) (hb : Binds X.K fdt ps [])
    (hf : P.fn f = some fd) (hps : ps.length = fd.lent.length) (hn : fd.n = Ns.length) (hle : fd.lent.length ≤ fd.n) : CallV X (callN P (d + 1)) f fd.lent fa := by
  intro pins s σ N p env μ us vs ds R Q I sr rv ar hc post
  obtain ⟨fd', e, hl, hc⟩ := hc
  rw [hf] at e; cases e
  obtain ⟨⟨h1, h2⟩, h3⟩ := ar.get
  have hvs : vs.length = fd.lent.length := by omega
  have hus : us.length = ps.length := by rw [← rv.length, hvs, hps]
  have bnd := hb s us I.kIn (by rw [List.append_nil]; exact hus)
  rw [List.append_nil] at bnd
  refine wpAny_call (codeAny_mono (F.run X.A X.stack s p.H ⟨us, []⟩ us vs Q hr hg I.env0 bnd rv ⟨hvs, pcOf p vs, ds, μ, R, rfl, view_in sr ar hn hle, hc, fun l d μ' p' v env' σ' hR sr' st' rv' => ?_⟩) fun r s' hq => ?_)
  · exact post l d μ' (prOf p p') v hR (view_out sr st' sr') (pr_stay sr st') (ret_out sr st' rv')
  · obtain ⟨u, rfl, hq⟩ := hq
    exact I.after hq
theorem callV_zero {P : Prog} {f : String} {ls : List Bool} {fa : Addr} : CallV X (callN P 0) f ls fa := fun pins s σ N p env μ us vs ds R Q I sr rv ar hc post => hc.elim
/-- arguments -/
def tAp (K : PySem.W.Frag) (N : Hp) (z : Ev) (ls : List Bool) (es : List E) : TA := fun σ H Q => ∃ p env μ Po, p.H = H ∧ SR K N p env μ σ ∧ wpA z.C z.G z.X ls es env μ Po ∧
  ∀ ds env' μ' p' vs, Po ds env' μ' → SR K N p' env' μ' σ → Step p p' → ArgsR K p' ls ds vs → Q vs p'.H
theorem pva_nil : PA X [] (tAp X.K N z [] []) := paImp pa_nil fun σ H Q h => by
  obtain ⟨p, env, μ, Po, rfl, sr, hw, post⟩ := h
  exact post [] env μ p [] hw sr .refl rfl
variable {pos q : Pos} {e : Expr} {es : List Expr} {ea : E} {ees : List E} {ls : List Bool}
theorem pva_fz (ha : PE X e (tE X.K N z ea)) (hr : PA X es (tAp X.K N z ls ees)) (hs : starEach (e :: es) X.env = (false, eval e X.env) :: starEach es X.env := by rfl) : PA X (e :: es) (tAp X.K N z (false :: ls) (ea :: ees)) := by
  refine paImp (pa_cons ha hr hs) fun σ H Q h => ?_
  obtain ⟨p, env, μ, Po, rfl, sr, hw, post⟩ := h
  refine ⟨p, env, μ, _, rfl, sr, hw, fun k x env1 μ1 p1 v h1 sr1 st1 vr1 => ?_⟩
  have h1 : esc k env1 fun env => wpA z.C z.G z.X ls ees env μ1 fun xs env μ => Po (x :: xs) env μ := h1
  obtain ⟨env2, p2, h2, hh, lo, sr2, st2, fz⟩ := esc_ok sr1 st1 vr1 h1
  refine ⟨p2, env2, μ1, _, hh, sr2, h2, fun ds env3 μ3 p3 vs h3 sr3 st3 al => ?_⟩
  exact post (x :: ds) env3 μ3 p3 (v :: vs) h3 sr3 (st2.trans st3) ⟨v, vs, rfl, Fz.le st3.le _ _ fz, al⟩
theorem Fz.la {K : PySem.W.Frag} {p : Ph} {d : D} {v : V} (h : Fz K p d v) : La K p d v := by
  cases d with
  | lst l => obtain ⟨a, vs, e, ⟨w, q⟩, f⟩ := h; exact ⟨a, vs, e, ⟨.inl w, .inl q⟩, f⟩
  | dic l => obtain ⟨a, vs, e, ⟨w, q⟩, f⟩ := h; exact ⟨a, vs, e, ⟨.inl w, q⟩, f⟩
  | _ => exact h
theorem Ow.la {K : PySem.W.Frag} {p : Ph} {o : Own} {N : Hp} {d : D} {v : V} (h : Ow K p o N d v) (ho : mine (some o) = true) : La K p d v := by
  cases d with
  | lst l => obtain ⟨a, vs, e, ⟨w, q, _⟩, f⟩ := h; exact ⟨a, vs, e, ⟨.inr (by rw [w]; exact ho), .inl q⟩, f⟩
  | dic l => obtain ⟨a, vs, e, ⟨w, q, _⟩, f⟩ := h; exact ⟨a, vs, e, ⟨.inr (by rw [w]; exact ho), .inl q⟩, f⟩
  | _ => exact h
theorem Ct.la {K : PySem.W.Frag} {p : Ph} {d : D} {v : V} (h : Ct K p d v) : La K p d v := by
  cases d with
  | lst l => obtain ⟨a, vs, e, ⟨w, q⟩, f⟩ := h; exact ⟨a, vs, e, ⟨w.imp id fun w => by rw [w]; rfl, q⟩, f⟩
  | dic l => obtain ⟨a, vs, e, ⟨w, q⟩, f⟩ := h; exact ⟨a, vs, e, ⟨w.imp id fun w => by rw [w]; rfl, q⟩, f⟩
  | _ => exact h
/-- what was read, behind the other arguments, as an argument that is looked at -/
theorem VR.la {K : PySem.W.Frag} {p0 p1 p2 : Ph} {env1 env2 : Env} {μ1 μ2 : Store} {σ : L2.St} {k : Kd} {d : D} {v : V} (h : VR K p0 p1 env1 μ1 σ k d v) (s : Step p1 p2) (sr : SR K N p2 env2 μ2 σ) (hk : kept k env1 env2 μ1 μ2) : La K p2 d v := by
  match k, h, hk with
  | .fz, h, _ => exact Fz.la (Fz.le s.le _ _ h)
  | .fresh, h, _ => exact Ow.la (Ow.le (N' := p0.H) s.le (fun a u w q => let ⟨x, y⟩ := s.keep a u q (by rw [w]; rfl); ⟨y.trans w, x⟩) (fun _ _ h => h) h) rfl
  | .bor i, h, hk =>
    obtain ⟨l, e, ev⟩ := h
    have hk : env2[i]? = env1[i]? := hk
    obtain ⟨w, ew, z⟩ := sr.slot i _ _ (hk.trans e)
    rw [ev] at ew; cases ew
    match l, z with
    | 0, z => exact Ow.la z rfl
    | _ + 1, z => exact Ct.la z
  | .borF n f, h, hk => exact hk.elim
theorem pva_lent (ha : PE X e (tE X.K N z ea)) (hr : PA X es (tAp X.K N z ls ees)) (hs : starEach (e :: es) X.env = (false, eval e X.env) :: starEach es X.env := by rfl) : PA X (e :: es) (tAp X.K N z (true :: ls) (ea :: ees)) := by
  refine paImp (pa_cons ha hr hs) fun σ H Q h => ?_
  obtain ⟨p, env, μ, Po, rfl, sr, hw, post⟩ := h
  refine ⟨p, env, μ, _, rfl, sr, hw, fun k x env1 μ1 p1 v h1 sr1 st1 vr1 => ?_⟩
  have h1 : wpA z.C z.G z.X ls ees env1 μ1 fun xs env' μ' => kept k env1 env' μ1 μ' ∧ Po (x :: xs) env' μ' := h1
  refine ⟨p1, env1, μ1, _, rfl, sr1, h1, fun ds env3 μ3 p3 vs h3 sr3 st3 al => ?_⟩
  exact post (x :: ds) env3 μ3 p3 (v :: vs) h3.2 sr3 (st1.trans st3) ⟨v, vs, rfl, vr1.la st3 sr3 h3.1, al⟩
theorem rc_post {K : PySem.W.Frag} {p p1 p' : Ph} {env : Env} {μ : Store} {σ : L2.St} {l : Nat} {d : D} {v : V} (st : Step p p1) (h : RC K p1 p' l d v) : VR K p p' env μ σ (if l = 0 then .fz else .fresh) d v := by
  match l, h with
  | 0, h => exact h
  | l + 1, h =>
    rw [if_neg (Nat.succ_ne_zero l)]
    exact (VR.from (k := .fresh) (env := env) (μ := μ) (σ := σ) h st)
theorem pv_call {x : Str} {f : String} {fa : Addr} {C : CallFn} {G : String → Option D} (F : CallV X C f ls fa) (hg : Gl X x) (hm : X.mg x = some (.ref fa)) (hk : PySem.W.keepIn X.K (.ref fa) = true) (ha : PA X (e :: es) (tAp X.K N ⟨C, G, noX⟩ ls ees))
    (hdb : (x == ("__debug__" : Str)) = false := by decide) (he : starEach (e :: es) X.env = (false, eval e X.env) :: starEach es X.env := by rfl) (hpl : (backTo pos (starEach es X.env)).any (·.1) = false := by rfl) :
    PE X (.Call (.Name x q) (e :: es) [] pos) (tE X.K N ⟨C, G, noX⟩ (.call f ls ees)) := by
  refine ⟨fun pins s σ H Q I h => ?_⟩
  obtain ⟨p, env, μ, Po, rfl, sr, hw, post⟩ := h
  refine wpAny_Call_Name_kw (ld_glob I hg hm ?_ hdb)
  refine PySem.W.callWith_K (h₀ := X.base) I.ok.mod.kin hk (thn (ha.run pos pins s σ p.H (fun vs H1 => ∃ p1 env1 μ1 ds, p1.H = H1 ∧ SR X.K N p1 env1 μ1 σ ∧ Step p p1 ∧ ArgsR X.K p1 ls ds vs ∧ C f ds μ1 (fun l d μ' => Po (if l = 0 then .fz else .fresh) d env1 μ') fun x μ' => False) I
    ⟨p, env, μ, _, rfl, sr, hw, fun ds env1 μ1 p1 vs h1 sr1 st1 al => ⟨p1, env1, μ1, ds, rfl, sr1, st1, al, h1⟩⟩) fun us s1 ⟨vs, H1, I1, r, q⟩ => ⟨I1.kIn, ?_⟩) he hpl
  obtain ⟨p1, env1, μ1, ds, rfl, sr1, st1, al, hc⟩ := q
  exact F pins s1 σ N p1 env1 μ1 us vs ds _ Q I1 sr1 r al hc fun l d μ' p' v hR sr' st' rc => post _ d env1 μ' p' v hR sr' (st1.trans st') (rc_post st1 rc)
theorem pv_call0 {x : Str} {f : String} {fa : Addr} {C : CallFn} {G : String → Option D} (F : CallV X C f [] fa) (hg : Gl X x) (hm : X.mg x = some (.ref fa)) (hk : PySem.W.keepIn X.K (.ref fa) = true)
    (hdb : (x == ("__debug__" : Str)) = false := by decide) : PE X (.Call (.Name x q) [] [] pos) (tE X.K N ⟨C, G, noX⟩ (.call f [] [])) := by
  refine ⟨fun pins s σ H Q I h => ?_⟩
  obtain ⟨p, env, μ, Po, rfl, sr, hw, post⟩ := h
  refine wpAny_Call_Name_kw (ld_glob I hg hm ?_ hdb)
  exact PySem.W.callWith_K0 I.kIn hk (F pins s σ N p env μ [] [] [] _ Q I sr .nil rfl hw fun l d μ' p' v hR sr' st' rc => post _ d env μ' p' v hR sr' st' (rc_post .refl rc))
/-- a def by its body -/
theorem fnG_D {P : Program} {w : World} {K : PySem.W.Frag} {mg : Str → Option Value} {base : Heap} {k : Nat} {fa : Addr} {nm ql : Str} {pa : Arguments} {body : List Stmt} {scp : Scope} {dV kV dc pm cd ct oc : Value} {an od : Option Addr} {osl : Array (Option Value)}
    {Ns ps : List Str} {C : CallFn} {G : String → Option D} {fd : FD} (lk : K.lookup fa = some ⟨oc, od, .func (PySem.W.fnOf nm ql pa body scp dV kV dc pm an cd ct), osl⟩) (hcd : PySem.W.codeIn K cd ql = true) (S : FnScope Ns ps scp) (hps : ps.length = fd.lent.length)
    (hb : ∀ (A : Around) (ou : List PySem.Env) (s : Shared) (H : Hp), Room k (A.deeper (envOfC ql scp s.heap.objs.size fa cd)) → A.guards = some [] → PSs (cxOf noCX P w K mg base Ns ql scp fa cd A ou s H fun _ _ _ => False) body (tSs K H C G fd.body)) :
    FnG P w K mg base (k + 1) fa (PySem.W.fnOf nm ql pa body scp dV kV dc pm an cd ct) ps (spD K Ns C G fd) :=
  fnG_of lk hcd S (fun vs H Q h => h.1.trans hps.symm) fun A ou s H vs Q room gd h => ⟨_, hb A ou s H room gd, by
    obtain ⟨hl, p, ds, μ, R, e, sr, hw, post⟩ := h
    exact ⟨p, start fd ds, μ, _, e, sr, hw, fun env' μ' p' σ' h sr' st' => post 0 .non μ' p' .non env' σ' h sr' st' rfl, fun l d μ' p' v env' σ' h sr' st' rv => post l d μ' p' v env' σ' h sr' st' rv, fun _ _ _ _ h => h.elim, fun _ _ _ _ h => h.elim, rfl⟩⟩
end
end Pv

set_option autoImplicit false
set_option linter.all false
set_option Elab.async false
set_option maxRecDepth 100000
namespace Pv
open PySem PySem.Spec PyProof.Rows L2
/-- a def that stands behind the top, by its body -/
theorem funD_G {P : Program} {w : World} {K : PySem.W.Frag} {mg : Str → Option Value} {base : Heap} {x qual : Str} {pa : Arguments} {body : List Stmt} {scp : Scope} {dvs : List V} {kws : List (Str × V)} {fa : Addr} {fdt : FuncData} {k : Nat} {Ns ps : List Str} {C : CallFn} {G : String → Option D} {fd : FD}
    (F : FunD K x qual pa body scp dvs kws fa fdt) (S : FnScope Ns ps scp) (hps : ps.length = fd.lent.length)
    (hb : ∀ (cd : Value) (A : Around) (ou : List PySem.Env) (s : Shared) (H : Hp), Room k (A.deeper (envOfC qual scp s.heap.objs.size fa cd)) → A.guards = some [] → PSs (cxOf noCX P w K mg base Ns qual scp fa cd A ou s H fun _ _ _ => False) body (tSs K H C G fd.body)) :
    FnG P w K mg base (k + 1) fa fdt ps (spD K Ns C G fd) := by
  obtain ⟨oc, od, dV, kV, doc, pm, an, cd, ct, osl, rfl, lk, hcd, _, _⟩ := F.ex
  exact fnG_D lk hcd S hps fun A ou s H hr hg => hb cd A ou s H hr hg
def okW (C : CallFn) (G : String → Option D) (fd : FD) (ns : List Int) : Prop :=
  wpSs C G fd.body { nx := fun _ _ => False, rt := fun _ d _ => d = .bl true, bk := fun _ _ => False, ct := fun _ _ => False, xc := noX } (start fd [.lst (ns.map .int)]) []
theorem fz_ints {K : PySem.W.Frag} {p : Ph} : ∀ ns : List Int, FzL K p (ns.map D.int) (ns.map V.int)
  | [] => rfl
  | n :: r => ⟨.int n, r.map V.int, rfl, rfl, fz_ints r⟩
/-- the law, called by the claim -/
theorem top_G {P : Program} {w : World} {K : PySem.W.Frag} {mg mb : Str → Option Value} {k : Nat} {fa a : Addr} {fdt : FuncData} {x : Str} {Ns : List Str} {C : CallFn} {G : String → Option D} {fd : FD} {s₁ : Shared} {vs : List Value} {ns : List Int}
    (kin : K.In s₁.heap) (nsm : s₁.heap.Ns mainGlobals mg) (nsb : s₁.heap.Ns builtinsNs mb) (bts : ∀ x : Str, x ≠ "__name__" → mb x = bootBuiltins x) (nolim : s₁.heap.NoLimit) (gens : s₁.gens = #[])
    (obj : s₁.heap.get? a = some { cls := .type "list", data := .seq vs.toArray }) (are : IntsAre vs ns) (short : ns.length ≤ sizeLine) (room : Room k callerA) (nl : ∀ b o, K.lookup b = some o → o.cls ≠ .type "list")
    (F : ∀ base : Heap, K.In base → base.Ns mainGlobals mg → FnG P w K mg base k fa fdt [x] (spD K Ns C G fd)) (bnd : ∀ (s : Shared) (u : Value), BindsTo s fdt ⟨[u], []⟩ [(x, u)])
    (hl : fd.lent = [true]) (hn : fd.n = Ns.length) (hn1 : 1 ≤ fd.n) (ok : okW C G fd ns) :
    codeAny (model P w) callerA (.call (.ref fa) ⟨[.ref a], []⟩) (fun r s' => r = .ok (.ret (.bool true)) ∧ OldK s₁.heap s'.heap ∧ s'.os = s₁.os ∧ AllBare s'.gens) s₁ := by
  have rel := vals_ints are
  have lenV := are.length
  let ob : PySem.Obj := { cls := .type "list", data := .seq vs.toArray }
  let H : Hp := fun b => if b = a then some (.frz ob (.lst (ns.map V.int))) else none
  have Ha : H a = some (.frz ob (.lst (ns.map V.int))) := if_pos rfl
  have Hn : ∀ b, b ≠ a → H b = none := fun b h => if_neg h
  have Hs : ∀ b u, H b = some u → b = a ∧ u = .frz ob (.lst (ns.map V.int)) := fun b u h => by
    by_cases e : b = a
    · subst e; rw [Ha] at h; cases h; exact ⟨rfl, rfl⟩
    · rw [Hn b e] at h; cases h
  have noK : K.lookup a = none := by
    cases q : K.lookup a with
    | none => rfl
    | some o =>
      have e := kin a o q
      rw [obj] at e; cases e
      exact absurd rfl (nl a _ q)
  have hok : HOk P w H s₁.heap := fun b u h => by
    obtain ⟨rfl, rfl⟩ := Hs b u h
    exact ⟨obj, by rw [List.length_map]; exact short, vs, _, rel, obj⟩
  have inB : ∀ {b : Addr} {o : PySem.Obj}, s₁.heap.get? b = some o → b ≠ a → (hidT s₁.heap H).get? b = some o := fun e n => hidT_get e (Hn _ n)
  have notA : ∀ {b : Addr} {o : PySem.Obj} {es : Array DictEntry} {ep : Nat}, s₁.heap.get? b = some o → o.data = .dict es ep → b ≠ a := fun {b o es ep} e d q => by
    subst q
    rw [obj] at e; cases e
    cases (show Data.seq vs.toArray _ = Data.dict es ep from d)
  have nsB : ∀ {b : Addr} {m : Str → Option Value}, s₁.heap.Ns b m → (hidT s₁.heap H).Ns b m := fun {b m} ⟨o, es, ep, e, d, r⟩ => ⟨o, es, ep, inB e (notA e d), d, r⟩
  have kinB : K.In (hidT s₁.heap H) := fun b o e => inB (kin b o e) fun q => by rw [q, noK] at e; cases e
  have mod : Mod K mg (hidT s₁.heap H) := ⟨kinB, nsB nsm, ⟨mb, nsB nsb, bts⟩, let ⟨mc, h1, h2⟩ := nolim; ⟨mc, nsB h1, h2⟩⟩
  have e0 : Env0 P w K mg (hidT s₁.heap H) callerA [] s₁ H := ⟨rfl, mod, fun b o e => of_hidT e, Nat.le_of_eq (hidT_size _ _), trivial, fun b hb => (nomatch hb), hok, .of_eq gens⟩
  have promise : spD K Ns C G fd [.ref a] H fun v _ => v = .bl true := by
    refine ⟨by rw [hl]; rfl, ⟨[], fun _ => none, H⟩, [.lst (ns.map .int)], [], fun _ d _ => d = .bl true, rfl, ?_, ?_, fun l d μ' p' v env' σ' hR sr' st' rv => ?_⟩
    · refine ⟨?_, fun i l d e => ?_, rfl, fun n o e => by simp at e, fun b o e => (by cases e), fun b q => q⟩
      · unfold start L2.start
        rw [hl]
        simp
        omega
      · obtain ⟨b, e1, e2, el⟩ := start_get e (by rw [hl]; rfl)
        rw [hl] at e1
        cases i with
        | succ i => simp at e1
        | zero =>
          simp at e1 e2
          subst e1 e2
          obtain rfl : l = 2 := by simpa using el
          exact ⟨.ref a, rfl, a, ns.map V.int, rfl, ⟨.inl rfl, .inr ⟨ob, Ha⟩⟩, fz_ints ns⟩
    · have : (fun (_ : Env) (μ' : Store) => D.non = .bl true) = fun _ _ => False := by
        funext _ _
        exact propext ⟨fun e => (nomatch e), fun e => False.elim e⟩
      show wpSs C G fd.body { nx := fun _ μ' => D.non = .bl true, rt := fun _ d _ => d = .bl true, bk := fun _ _ => False, ct := fun _ _ => False, xc := noX } _ _
      rw [this]
      exact ok
    · subst hR
      cases l with
      | zero => exact rv
      | succ l => obtain ⟨o, _, rv⟩ := rv; exact rv
  refine codeAny_mono ((F _ kinB (nsB nsm)).run callerA [] s₁ H ⟨[.ref a], []⟩ [.ref a] [.ref a] _ room rfl e0 (bnd s₁ (.ref a)) (.cons rfl .nil) promise) fun r s' h => ?_
  obtain ⟨u, rfl, v, H', os, bare, un, hok', rv, rfl⟩ := h
  obtain rfl : u = Value.bool true := rv
  refine ⟨rfl, OldK.of_keep fun b o e => ?_, os, bare⟩
  by_cases q : b = a
  · subst q
    have z := un.frzs b ob _ Ha
    obtain ⟨e2, _⟩ := hok' b _ z
    rw [obj] at e; cases e
    exact e2
  · exact un.keep b o e (Hn b q) (fun z => (nomatch z)) (by simp)
theorem walk_G {l : PySem.W.OpenLaw} {n k : Nat} {q : Program} {loose : List Str} {XP : (Str → Option Value) → Heap → Prop} {YP : World → Heap → Prop} {d : DefRec} {x : Str}
    (hn : l.most = some n) (hn2 : n ≤ sizeLine) (hdf : d.params.defaults = []) (hr : Room k callerA)
    (F : ∀ (w : World) (mg : Str → Option Value) (fa : Addr) (h : Heap), YP w h → h.Ns mainGlobals mg → mg d.name = some (.ref fa) →
      ∃ (K : PySem.W.Frag) (fdt : FuncData) (Ns : List Str) (C : CallFn) (G : String → Option D) (fd : FD), K.In h ∧ (∀ b o, K.lookup b = some o → o.cls ≠ .type "list") ∧ (∀ (s : Shared) (u : Value), BindsTo s fdt ⟨[u], []⟩ [(x, u)]) ∧
        (∀ base : Heap, K.In base → base.Ns mainGlobals mg → FnG l.prog w K mg base k fa fdt [x] (spD K Ns C G fd)) ∧ fd.lent = [true] ∧ fd.n = Ns.length ∧ 1 ≤ fd.n ∧ ∀ ns : List Int, ns.length ≤ n → okW C G fd ns) :
    PySem.W.WalkO q loose XP YP l.row.toRowW d [] (fun f vs => PySem.call f vs) := by
  refine Att.attach_call hn hdf fun w s₀ s₁ mg mb fa o pm cd doc a vs ns G Y ho hd hcd hmg hobj hints hlen hg => ?_
  obtain ⟨K, fdt, Ns, C, Gl, fd, kin, nl, bnd, hF, h1, h2, h3, hok⟩ := F w mg fa _ Y G.T.g hmg
  exact top_G kin G.T.g G.T.b G.T.builtins G.T.nolimit hg hobj hints (Nat.le_trans hlen hn2) hr nl hF bnd h1 h2 h3 (hok ns hlen)
end Pv

set_option autoImplicit false
set_option linter.all false
set_option Elab.async false
set_option maxRecDepth 100000
namespace Pv
open PySem PySem.Spec PyProof.Rows L2
section
variable {prog : Program} {w : World} {A : Around} {E : Value → Shared → Prop} {s : Shared}
/-- a list grows by a range of far moments -/
theorem grow_far {R : Result → Shared → Prop} {rg : Addr} {lo hi st : Int} {t1 t2 t3 : Tok} {m : Nat} (nh : A.handled = none) (isr : IsRange s.heap rg lo hi st t1 t2 t3) (far : Builtin.Range.small lo hi st = false)
    (hm : Builtin.Range.rangeSize lo hi st = m) (hfit : m ≤ 2 ^ 24) (L : Addr) (ret : Value) (cap : Nat) (hL : s.heap.get? L = some { cls := .type "list", data := .seq #[] cap })
    (hR : ∀ h' tk xs c', (∀ b o, b ≠ L → s.heap.get? b = some o → h'.get? b = some o) → h'.get? L = some { cls := .type "list", dict := none, data := .seq xs c', slots := #[] } →
      ItemsOf (fun i v => ∃ t, v = .int (lo + i * st) t) xs m → R (.ok (.ret ret)) { s with heap := h', toks := tk }) :
    wpAny (model prog w) A.in1 (Builtin.List.listExtendWith (.ref L) (.ref rg) ret)
      (fun fin s' => match fin with | .done f => R (.ok f) s' | .again c' => c'.quiet = true ∧ codeAny (model prog w) A c' R s') (fun e s' => R (.error e) s') s := by
  have neq : L ≠ rg := fun e => by rw [e, isr] at hL; simp at hL
  have hlt : L < s.heap.objs.size := Heap.lt_size hL
  have nit : L ≠ s.heap.objs.size := Nat.ne_of_lt hlt
  have nmem : L ∉ [s.heap.objs.size] := fun q => nit (List.mem_singleton.mp q)
  have W := (Walks.longrange (prog := prog) (w := w) (A := A.in1) nh s.heap.objs.size lo st m).toS
  have go : ∀ (h : Heap) (c1 tk : Nat), IsLongIter h s.heap.objs.size (lo + ((0 : Nat) : Int) * st) ((m : Int) - ((0 : Nat) : Int)) st → (∀ b o, b ≠ L → s.heap.get? b = some o → h.get? b = some o) →
      h.get? L = some { cls := .type "list", data := .seq #[] c1 } → codeAny (model prog w) A (.builtin "list.extend.loop" ⟨[.ref L, .ref s.heap.objs.size, ret], []⟩) R { s with heap := h, toks := tk } := by
    intro h c1 tk hit keep hL1
    refine codeAny_extend_loopS W (by rw [sizeLine_eq]; omega) L nmem ret m 0 _ #[] c1 rfl (Nat.zero_le _) hit hL1 (ItemsOf.nil _) fun s' xs c' mv hL' hxs => ?_
    rw [Moved.eq_with mv]
    refine hR s'.heap s'.toks xs c' (fun b o hb e => mv.heap b o (fun q => ?_) (keep b o hb e)) hL' hxs
    rcases List.mem_cons.mp q with z | q
    · exact hb z
    · exact absurd (Heap.lt_size e) (by rw [List.mem_singleton.mp q]; exact Nat.lt_irrefl _)
  unfold Builtin.List.listExtendWith
  refine wpAny_bind (wpAny_typeOf (T := "range") ⟨_, isr, rfl⟩ ?_)
  have q1 : Builtin.List.listSameRef (.ref L) (.ref rg) = false := by simp [Builtin.List.listSameRef, neq]
  have q2 : (Value.type "range" == Value.type "list") = false := by decide
  have q3 : (Value.type "range" == Value.type "tuple") = false := by decide
  simp only [q1, q2, q3, Bool.or_false, Bool.false_eq_true, if_false]
  refine wpAny_bind (wpAny_pyIter_longrange isr far ?_)
  refine wpAny_bind (wpAny_holding (wpAny_hint_range (n := m) (Heap.get?_push_of_some _ isr) hm hfit ?_))
  have it1 : IsLongIter (s.heap.push { cls := .type "longrange_iterator", data := .fields #[rawInt lo, rawInt (Builtin.Range.rangeSize lo hi st), rawInt st] }) s.heap.objs.size (lo + ((0 : Nat) : Int) * st) ((m : Int) - ((0 : Nat) : Int)) st := by
    show IsLongIter _ _ _ _ _
    rw [hm]
    simpa using Heap.get?_push_size _ rfl
  have hL1 := Heap.get?_push_of_some { cls := .type "longrange_iterator", data := .fields #[rawInt lo, rawInt (Builtin.Range.rangeSize lo hi st), rawInt st] } hL
  refine wpAny_ite_split (fun _ => ?_) (fun _ => wpAny_pure ⟨plainId_quiet F.plain_extend_loop _, go _ cap _ it1 (fun b o _ e => Heap.get?_push_of_some _ e) hL1⟩)
  refine wpAny_bind (wpAny_rule (wpAny_bind ?_))
  show wpAny _ _ (updateSeq L (·.push .none) >>= fun _ => updateSeq L (·.pop)) _ _ _
  refine wpAny_bind (wpAny_updateSeq hL1 rfl ?_)
  have hL2 := Heap.get?_update_self (Obj.mapSeq (·.push Value.none)) hL1 rfl
  refine wpAny_updateSeq (hz := by seq_fits) hL2 rfl ?_
  have hL3 := Heap.get?_update_self (Obj.mapSeq (·.pop)) hL2 rfl
  refine wpAny_pure ⟨plainId_quiet F.plain_extend_loop _, go _ _ _ ?_ (fun b o hb e => ?_) hL3⟩
  · exact (Heap.get?_update_other _ _ nit).trans ((Heap.get?_update_other _ _ nit).trans it1)
  · exact (Heap.get?_update_other _ _ (Ne.symm hb)).trans ((Heap.get?_update_other _ _ (Ne.symm hb)).trans (Heap.get?_push_of_some _ e))
theorem list_far {Q : Value → Shared → Prop} {rg : Addr} {lo hi st : Int} {t1 t2 t3 : Tok} {m : Nat} (nh : A.handled = none) (isr : IsRange s.heap rg lo hi st t1 t2 t3) (far : Builtin.Range.small lo hi st = false)
    (hm : Builtin.Range.rangeSize lo hi st = m) (hfit : m ≤ 2 ^ 24)
    (hQ : ∀ h' tk xs c', (∀ b o, s.heap.get? b = some o → h'.get? b = some o) →
      h'.get? s.heap.objs.size = some { cls := .type "list", dict := none, data := .seq xs c', slots := #[] } → ItemsOf (fun i v => ∃ t, v = .int (lo + i * st) t) xs m → Q (.ref s.heap.objs.size) { s with heap := h', toks := tk }) :
    wpAny (model prog w) A (call (.type "list") [.ref rg]) Q E s := by
  refine callType_codes (Q₁ := fun obj s1 => obj = .ref s.heap.objs.size ∧ s1 = { s with heap := s.heap.push { cls := .type "list", data := .seq #[] } }) F.called_list (F.typeCall_list_1 _) F.entry_list_init
    (code_list_new _ ⟨rfl, rfl⟩) fun obj s1 hh1 => ?_
  obtain ⟨rfl, rfl⟩ := hh1
  have hL : (s.heap.push { cls := .type "list", data := .seq #[] }).get? s.heap.objs.size = some { cls := .type "list", data := .seq #[] } := Heap.get?_push_size _ rfl
  have isr1 := Heap.get?_push_of_some { cls := .type "list", data := .seq #[] } isr
  refine ⟨⟨_, hL, rfl⟩, F.args_list_init_2 _ _, ?_⟩
  have neq : s.heap.objs.size ≠ rg := fun e => by rw [← e] at isr; exact Nat.lt_irrefl _ (Heap.lt_size isr)
  show wpAny _ _ (do let old ← Builtin.List.listItems (.ref s.heap.objs.size); Builtin.List.listUpdate (.ref s.heap.objs.size) (fun _ => #[]); letGo old.toList.reverse; Builtin.List.listExtendWith (.ref s.heap.objs.size) (.ref rg) .none) _ _ _
  refine wpAny_bind ?_
  unfold Builtin.List.listItems
  refine wpAny_bind (wpAny_seqItems hL rfl (wpAny_pure ?_))
  show wpAny _ _ (updateSeq s.heap.objs.size (fun _ => #[]) >>= fun _ => letGo (#[] : Array Value).toList.reverse >>= fun _ => Builtin.List.listExtendWith (.ref s.heap.objs.size) (.ref rg) .none) _ _ _
  refine wpAny_bind (wpAny_updateSeq hL rfl ?_)
  have hL2 := Heap.get?_update_self (Obj.mapSeq (fun _ => (#[] : Array Value))) hL rfl
  refine wpAny_bind (wpAny_letGo ?_)
  refine grow_far (A := A.in1) nh ((Heap.get?_update_other _ _ neq).trans isr1) far hm hfit _ .none _ hL2 fun h' tk xs c' keep hL' hxs => ?_
  exact ⟨rfl, hQ h' tk xs c' (fun b o e => keep b o (Nat.ne_of_lt (Heap.lt_size e)) ((Heap.get?_update_other _ _ (Ne.symm (Nat.ne_of_lt (Heap.lt_size e)))).trans (Heap.get?_push_of_some _ e))) hL' hxs⟩
end
section
variable {K : PySem.W.Frag} {N N0 : Hp} {p p' p0 : Ph} {env : Env} {μ : Store} {σ : L2.St}
/-! ### values for some names at once -/
/-- a thing that is no one's is given to a name, told by its label -/
theorem SR.slotW (sr : SR K N p env μ σ) {i : Nat} {a : Addr} {d : D} (hi : i < env.length) (wa : p.W a = some .tmp) (na : N a = none) (h : Ow K p .tmp N0 d (.ref a)) (hc : isC d = true) :
    SR K N ⟨p.θ, updW p.W a (some (.slot i)), p.H⟩ (env.set i (some (1, d))) μ (σ.set i (some (.ref a))) ∧ Le p ⟨p.θ, updW p.W a (some (.slot i)), p.H⟩ := by
  have le : Le p ⟨p.θ, updW p.W a (some (.slot i)), p.H⟩ := ⟨fun _ _ h => h, fun b u w q => by
    have ne : b ≠ a := fun e => by rw [e, wa] at w; cases w
    exact ⟨(updW_ne ne).trans w, q⟩⟩
  have ws : ∀ b o u, p.W b = some o → p.H b = some u → o ≠ .tmp → o ≠ .far → updW p.W a (some (.slot i)) b = some o ∧ p.H b = some u := fun b o u w q h1 h2 => by
    have ne : b ≠ a := fun e => by rw [e, wa] at w; cases w; exact h1 rfl
    exact ⟨(updW_ne ne).trans w, q⟩
  refine ⟨⟨by rw [List.length_set, List.length_set]; exact sr.len, fun j l x e => ?_, sr.st, fun n o e => ?_, fun b o e => ?_, sr.dom⟩, le⟩
  · by_cases hj : j = i
    · subst hj
      rw [List.getElem?_set_self hi] at e
      cases e
      exact ⟨.ref a, List.getElem?_set_self (by rw [← sr.len]; exact hi), h.to hc le updW_same rfl na⟩
    · rw [List.getElem?_set_ne (Ne.symm hj)] at e
      rw [List.getElem?_set_ne (Ne.symm hj)]
      obtain ⟨w, e1, z⟩ := sr.slot j l x e
      exact ⟨w, e1, z.re le ws⟩
  · obtain ⟨b, e1, z⟩ := sr.obj n o e
    exact ⟨b, e1, z.re le ws⟩
  · by_cases hb : b = a
    · subst hb
      exact sr.lab b _ wa
    · exact sr.lab b o ((updW_ne hb).symm.trans e)
/-- a name is given what may be held at level 1 though it can't change -/
theorem SR.setL (sr : SR K N p env μ σ) {i l : Nat} {d : D} {v : V} (hi : i < env.length) (h : VS K N p i l d v) : SR K N p (env.set i (some (l, d))) μ (σ.set i (some v)) := by
  refine ⟨by rw [List.length_set, List.length_set]; exact sr.len, fun j l' x e => ?_, sr.st, sr.obj, sr.lab, sr.dom⟩
  by_cases hj : j = i
  · subst hj
    rw [List.getElem?_set_self hi] at e
    cases e
    exact ⟨v, List.getElem?_set_self (by rw [← sr.len]; exact hi), h⟩
  · rw [List.getElem?_set_ne (Ne.symm hj)] at e
    rw [List.getElem?_set_ne (Ne.symm hj)]
    exact sr.slot j l' x e
theorem FsP.relab {a : Addr} {w : Option Own} (le : Le p ⟨p.θ, updW p.W a w, p.H⟩) : ∀ {N0 : Hp} {fs : List (List Nat × Nat × D)} {vs : List V}, N0 a ≠ none → FsP K p N0 fs vs → FsP K ⟨p.θ, updW p.W a w, p.H⟩ N0 fs vs
  | N0, [], vs, _, h => h
  | N0, (f, l, d) :: r, vs, ha, h => by
    obtain ⟨v, ws, N', e, z, i1, t⟩ := h
    refine ⟨v, ws, N', e, ?_, i1, FsP.relab le (i1 a ha) t⟩
    rcases z with ⟨e, z⟩ | ⟨e, c, z⟩ | ⟨e, z, q⟩
    · exact .inl ⟨e, Fz.le le _ _ z⟩
    · exact .inr (.inl ⟨e, c, Fz.le le _ _ z⟩)
    · refine .inr (.inr ⟨e, ?_, q⟩)
      obtain ⟨hc, b, rfl, _⟩ := q
      have wb := z.atC hc
      have ne : b ≠ a := fun e => ha (e ▸ wb.2.2)
      exact z.to hc le ((updW_ne ne).trans wb.1) rfl wb.2.2
theorem gives_ok : ∀ (fs : List (Nat × D)) (vs : List V) (is : List Nat) (env : Env) (σ : L2.St) (p : Ph) (N0 : Hp), FsP K p N0 (fs.map fun x => ([], x)) vs → is.length = fs.length → (∀ i ∈ is, i < env.length) → SR K N p env μ σ → (∀ a, N a ≠ none → N0 a ≠ none) →
    ∃ p', p'.H = p.H ∧ p'.θ = p.θ ∧ (∀ a, N0 a ≠ none → p'.W a = p.W a) ∧ SR K N p' ((is.zip fs).foldl (fun env q => env.set q.1 (some q.2)) env) μ ((is.zip vs).foldl (fun σ q => σ.set q.1 (some q.2)) σ)
  | [], vs, is, env, σ, p, N0, h, hl, hi, sr, hN => by
    rw [show vs = [] from h]
    have : is = [] := List.length_eq_zero_iff.mp hl
    subst this
    exact ⟨p, rfl, rfl, fun _ _ => rfl, sr⟩
  | (l, d) :: r, vs, [], env, σ, p, N0, h, hl, hi, sr, hN => by simp at hl
  | (l, d) :: r, vs, i :: is, env, σ, p, N0, h, hl, hi, sr, hN => by
    obtain ⟨v, ws, N', rfl, zz, i1, t⟩ := h
    have hi0 : i < env.length := hi i List.mem_cons_self
    have hi1 : ∀ (x : Option (Nat × D)), ∀ j ∈ is, j < (env.set i x).length := fun x j hj => by rw [List.length_set]; exact hi j (List.mem_cons_of_mem _ hj)
    have go : ∀ (q : Ph), q.H = p.H → q.θ = p.θ → (∀ a, N0 a ≠ none → q.W a = p.W a) → FsP K q N' (r.map fun x => ([], x)) ws → SR K N q (env.set i (some (l, d))) μ (σ.set i (some v)) → ∃ p', p'.H = p.H ∧ p'.θ = p.θ ∧ (∀ a, N0 a ≠ none → p'.W a = p.W a) ∧ SR K N p' ((is.zip r).foldl (fun env q => env.set q.1 (some q.2)) (env.set i (some (l, d)))) μ ((is.zip ws).foldl (fun σ q => σ.set q.1 (some q.2)) (σ.set i (some v))) := fun q e1 e2 e3 t sr' => by
      obtain ⟨p', h1, h2, h3, h4⟩ := gives_ok r ws is (env.set i (some (l, d))) (σ.set i (some v)) q N' t (by simpa using hl) (hi1 _) sr' (fun a ha => i1 a (hN a ha))
      exact ⟨p', h1.trans e1, h2.trans e2, fun a ha => (h3 a (i1 a ha)).trans (e3 a ha), h4⟩
    rcases zz with ⟨rfl, z⟩ | ⟨rfl, c, z⟩ | ⟨rfl, z, c, a, rfl, q⟩
    · exact go p rfl rfl (fun _ _ => rfl) t (sr.setL (l := 0) hi0 z)
    · exact go p rfl rfl (fun _ _ => rfl) t (sr.setL (l := 1) hi0 (Ow.of_fz c z))
    · have wa := z.atC c
      have na : N a = none := by
        cases e : N a with
        | none => rfl
        | some u => exact absurd wa.2.2 (hN a (by rw [e]; exact fun z => nomatch z))
      obtain ⟨s1, le⟩ := sr.slotW (i := i) hi0 wa.1 na z c
      exact go ⟨p.θ, updW p.W a (some (.slot i)), p.H⟩ rfl rfl (fun b hb => updW_ne fun e => hb (e ▸ wa.2.2)) (FsP.relab le q t) s1
end
section
variable {X : Cx} {N : Hp} {z : Ev} {C : CallFn} {G : String → Option D} {pos p2 : Pos} {e : Expr} {es : List Expr} {ea : E} {ees : List E}
def tPp (K : PySem.W.Frag) (N : Hp) (z : Ev) (es : List E) : TA := fun σ H Q => ∃ p env μ Po, p.H = H ∧ SR K N p env μ σ ∧ wpP z.C z.G z.X es env μ Po ∧
  ∀ xs env' μ' p' vs, Po xs env' μ' → xs.length = es.length → SR K N p' env' μ' σ → Step p p' → FsP K p' p.H (xs.map fun x => ([], x)) vs → Q vs p'.H
theorem pvp_nil : PA X [] (tPp X.K N z []) := paImp pa_nil fun σ H Q h => by
  obtain ⟨p, env, μ, Po, rfl, sr, hw, post⟩ := h
  exact post [] env μ p [] hw rfl sr .refl rfl
theorem pvp_cons (ha : PE X e (tE X.K N z ea)) (hr : PA X es (tPp X.K N z ees)) (hs : starEach (e :: es) X.env = (false, eval e X.env) :: starEach es X.env := by rfl) : PA X (e :: es) (tPp X.K N z (ea :: ees)) := by
  refine paImp (pa_cons ha hr hs) fun σ H Q h => ?_
  obtain ⟨p, env, μ, Po, rfl, sr, hw, post⟩ := h
  have keep : ∀ {p1 p2 : Ph} {d : D} {w : V}, Step p1 p2 → Ow X.K p1 .tmp p.H d w → Ow X.K p2 .tmp p.H d w := fun s z => Ow.le s.le (fun a u w q => let ⟨x, y⟩ := s.keep a u q (by rw [w]; rfl); ⟨y.trans w, x⟩) (fun _ _ h => h) z
  refine ⟨p, env, μ, _, rfl, sr, hw, fun kd d env1 μ1 p1 w h1 sr1 st1 vr1 => ?_⟩
  cases kd with
  | fz =>
    refine ⟨p1, env1, μ1, _, rfl, sr1, h1, fun xs env2 μ2 p2 ws h2 hn sr2 st2 fp => ?_⟩
    exact post ((0, d) :: xs) env2 μ2 p2 (w :: ws) h2 (by simp [hn]) sr2 (st1.trans st2) ⟨w, ws, p1.H, rfl, .inl ⟨rfl, Fz.le st2.le _ _ vr1⟩, st1.dom, fp⟩
  | fresh =>
    refine ⟨p1, env1, μ1, _, rfl, sr1, h1, fun xs env2 μ2 p2 ws h2 hn sr2 st2 fp => ?_⟩
    have o1 : Ow X.K p1 .tmp p.H d w := vr1
    have o2 : (1 = 0 ∧ Fz X.K p2 d w) ∨ (1 = 1 ∧ isC d = false ∧ Fz X.K p2 d w) ∨ (1 = 1 ∧ Ow X.K p2 .tmp p.H d w ∧ isC d = true ∧ ∃ a, w = .ref a ∧ p1.H a ≠ none) := by
      rcases o1.cases with ⟨c, z⟩ | ⟨a, e, _, q, _⟩
      · exact .inr (.inl ⟨rfl, c, Fz.le st2.le _ _ z⟩)
      · cases hc : isC d with
        | true => exact .inr (.inr ⟨rfl, keep st2 o1, rfl, a, e, q⟩)
        | false => exact .inr (.inl ⟨rfl, rfl, by cases d <;> first | exact Fz.le st2.le _ _ o1 | cases hc⟩)
    exact post ((1, d) :: xs) env2 μ2 p2 (w :: ws) h2 (by simp [hn]) sr2 (st1.trans st2) ⟨w, ws, p1.H, rfl, o2, st1.dom, fp⟩
  | bor i =>
    obtain ⟨env2, p2, h2, hh, lo, sr2, st2, fz⟩ := esc_ok sr1 st1 vr1 h1
    refine ⟨p2, env2, μ1, _, hh, sr2, h2, fun xs env3 μ3 p3 ws h3 hn sr3 st3 fp => ?_⟩
    exact post ((0, d) :: xs) env3 μ3 p3 (w :: ws) h3 (by simp [hn]) sr3 (st2.trans st3) ⟨w, ws, p2.H, rfl, .inl ⟨rfl, Fz.le st3.le _ _ fz⟩, st2.dom, fp⟩
  | borF n g => exact h1.elim
theorem par_ok {is : List Nat} {D : L2.Ends} {E : Pv.Ends} {p p1 : Ph} {env1 : Env} {μ1 : Store} {σ : L2.St} {xs : List (Nat × Pv.D)} {vs : List V} (ok : EOk X.K N p D E) (sr0 : ∀ a, N a ≠ none → p.H a ≠ none) (hlen : σ.length = X.N.length) (hi : ∀ i ∈ is, i < X.N.length)
    (h1 : E.nx ((is.zip xs).foldl (fun env p => env.set p.1 (some p.2)) env1) μ1) (hl : is.length = xs.length) (sr1 : SR X.K N p1 env1 μ1 σ) (st1 : Step p p1) (fp : FsP X.K p1 p.H (xs.map fun x => ([], x)) vs) : D.nx ((is.zip vs).foldl (fun σ q => σ.set q.1 (some q.2)) σ) p1.H := by
  obtain ⟨p', e1, e2, e3, sr'⟩ := gives_ok xs vs is env1 σ p1 p.H fp hl (fun i h => by rw [sr1.len, hlen]; exact hi i h) sr1 sr0
  have := ok.nx _ μ1 p' _ h1 sr' ⟨fun n a h => by rw [e2]; exact st1.th n a h, fun a o q t => by
    obtain ⟨x, y⟩ := st1.keep a o q t
    exact ⟨by rw [e1]; exact x, (e3 a (by rw [q]; exact fun z => nomatch z)).trans y⟩, fun a q => by rw [e1]; exact st1.dom a q⟩
  rw [e1] at this
  exact this
theorem pvs_par2 {i j : Nat} {x y : Str} {a b : Expr} {ea eb : E} {px py pt pt2 : Pos} {kt k2 : Nat} (hc : X.calm = true) (hN : X.N.Nodup) (hi : X.N[i]? = some x) (hj : X.N[j]? = some y) (hij : i ≠ j)
    (hx : X.env.scope.names.lookup x = some .local) (hy : X.env.scope.names.lookup y = some .local) (ha : PE X a (tE X.K N ⟨C, G, noX⟩ ea)) (hb : PE X b (tE X.K N ⟨C, G, noX⟩ eb))
    (hw : swappedStores [.Tuple [.Name x px, .Name y py] kt pt] (.Tuple [a, b] k2 pt2) X.env = pure (some [x, y]) := by rfl)
    (hs : swapsWithSole [.Tuple [.Name x px, .Name y py] kt pt] (.Tuple [a, b] k2 pt2) pos.line X.env = pure false := by rfl)
    (h2 : starEach [a, b] X.env = (false, eval a X.env) :: starEach [b] X.env := by rfl) (h3 : starEach [b] X.env = (false, eval b X.env) :: starEach [] X.env := by rfl) :
    PS X (.Assign [.Tuple [.Name x px, .Name y py] kt pt] (.Tuple [a, b] k2 pt2) pos) (tS X.K N C G (.par [i, j] [ea, eb])) := psImpI (ps_par hc hN hi hj hij hx hy (pvp_cons ha (pvp_cons hb pvp_nil h3) h2) hw hs) fun D σ H hlen h => by
  obtain ⟨p, env, μ, E, rfl, sr, hw, ok⟩ := h
  have hw : wpP C G E.xc [ea, eb] env μ fun ds env μ => E.nx (([i, j].zip ds).foldl (fun env p => env.set p.1 (some p.2)) env) μ := hw
  rw [ok.xc] at hw
  refine ⟨p, env, μ, _, rfl, sr, hw, fun xs env1 μ1 p1 vs h1 hl sr1 st1 fp => ?_⟩
  have lv := fp.len
  rw [List.length_map, hl] at lv
  obtain ⟨v, w, rfl⟩ : ∃ v w, vs = [v, w] := by
    match vs, lv with
    | [v, w], _ => exact ⟨v, w, rfl⟩
  exact ⟨v, w, rfl, par_ok (is := [i, j]) ok sr.dom hlen (fun k hk => by
    rcases List.mem_cons.mp hk with rfl | hk
    · exact (List.getElem?_eq_some_iff.mp hi).1
    · rcases List.mem_cons.mp hk with rfl | hk
      · exact (List.getElem?_eq_some_iff.mp hj).1
      · cases hk) h1 (by rw [hl]; rfl) sr1 st1 fp⟩
theorem pvs_par3 {i j l : Nat} {x y w : Str} {a b c : Expr} {ea eb ec : E} {px py pw pt pt2 : Pos} {kt k2 : Nat} (hc : X.calm = true) (hN : X.N.Nodup) (hi : X.N[i]? = some x) (hj : X.N[j]? = some y) (hl : X.N[l]? = some w) (hij : i ≠ j) (hil : i ≠ l) (hjl : j ≠ l)
    (hx : X.env.scope.names.lookup x = some .local) (hy : X.env.scope.names.lookup y = some .local) (hz : X.env.scope.names.lookup w = some .local) (ha : PE X a (tE X.K N ⟨C, G, noX⟩ ea)) (hb : PE X b (tE X.K N ⟨C, G, noX⟩ eb)) (hcc : PE X c (tE X.K N ⟨C, G, noX⟩ ec))
    (hw : swappedStores [.Tuple [.Name x px, .Name y py, .Name w pw] kt pt] (.Tuple [a, b, c] k2 pt2) X.env = pure (some [x, y, w]) := by rfl)
    (hs : swapsWithSole [.Tuple [.Name x px, .Name y py, .Name w pw] kt pt] (.Tuple [a, b, c] k2 pt2) pos.line X.env = pure false := by rfl)
    (h2 : starEach [a, b, c] X.env = (false, eval a X.env) :: starEach [b, c] X.env := by rfl) (h3 : starEach [b, c] X.env = (false, eval b X.env) :: starEach [c] X.env := by rfl) (h4 : starEach [c] X.env = (false, eval c X.env) :: starEach [] X.env := by rfl) :
    PS X (.Assign [.Tuple [.Name x px, .Name y py, .Name w pw] kt pt] (.Tuple [a, b, c] k2 pt2) pos) (tS X.K N C G (.par [i, j, l] [ea, eb, ec])) := psImpI (ps_par3 hc hN hi hj hl hij hil hjl hx hy hz (pvp_cons ha (pvp_cons hb (pvp_cons hcc pvp_nil h4) h3) h2) hw hs) fun D σ H hlen h => by
  obtain ⟨p, env, μ, E, rfl, sr, hw, ok⟩ := h
  have hw : wpP C G E.xc [ea, eb, ec] env μ fun ds env μ => E.nx (([i, j, l].zip ds).foldl (fun env p => env.set p.1 (some p.2)) env) μ := hw
  rw [ok.xc] at hw
  refine ⟨p, env, μ, _, rfl, sr, hw, fun xs env1 μ1 p1 vs h1 hl' sr1 st1 fp => ?_⟩
  have lv := fp.len
  rw [List.length_map, hl'] at lv
  obtain ⟨v1, v2, v3, rfl⟩ : ∃ v1 v2 v3, vs = [v1, v2, v3] := by
    match vs, lv with
    | [v1, v2, v3], _ => exact ⟨v1, v2, v3, rfl⟩
  exact ⟨v1, v2, v3, rfl, par_ok (is := [i, j, l]) ok sr.dom hlen (fun k hk => by
    rcases List.mem_cons.mp hk with rfl | hk
    · exact (List.getElem?_eq_some_iff.mp hi).1
    · rcases List.mem_cons.mp hk with rfl | hk
      · exact (List.getElem?_eq_some_iff.mp hj).1
      · rcases List.mem_cons.mp hk with rfl | hk
        · exact (List.getElem?_eq_some_iff.mp hl).1
        · cases hk) h1 (by rw [hl']; rfl) sr1 st1 fp⟩
/-! ### dicts by written keys, as data -/
def PDs (X : Cx) (N : Hp) (z : Ev) (pos : Pos) (keys : List (Option Expr)) (values : List Expr) (ks : List D) (es : List E) : Prop :=
  (keys.all (·.isSome) = true ∧ keys.length = values.length ∧ ks.length = es.length ∧ keys.length = ks.length) ∧ ∃ trs, PPs X pos keys values trs ∧ ∀ (σ : L2.St) (p : Ph) (env : Env) (μ : Store) (Po : List D → Env → Store → Prop) (Q : List (V × V) → Hp → Prop),
    SR X.K N p env μ σ → wpL z.C z.G z.X es env μ Po →
    (∀ xs env' μ' p' qs, Po xs env' μ' → SR X.K N p' env' μ' σ → Step p p' → FzKV X.K p' (ks.zip xs) qs → qs.map (·.1) = ks.filterMap keyV → Q (qs.map fun kv => (kV kv.1, kv.2)) p'.H) → tPairs trs σ p.H Q
theorem pds_nil : PDs X N z pos [] [] [] [] := ⟨⟨rfl, rfl, rfl, rfl⟩, [], pps_nil, fun σ p env μ Po Q sr hw post => post [] env μ p [] hw sr .refl rfl rfl⟩
theorem pds_cons {k v : Expr} {dk : D} {q : Key} {ev : E} {keys : List (Option Expr)} {values : List Expr} {ks : List D} (hk : PE X k (L2.tC (kV q))) (hq : keyV dk = some q) (hv : PE X v (tE X.K N z ev)) (hr : PDs X N z pos keys values ks ees) : PDs X N z pos (some k :: keys) (v :: values) (dk :: ks) (ev :: ees) := by
  obtain ⟨⟨h1, h2, h2', h2''⟩, trs, h3, h4⟩ := hr
  refine ⟨⟨by simp [h1], by simp [h2], by simp [h2'], by simp [h2'']⟩, _, pps_cons hk hv h3, fun σ p env μ Po Q sr hw post => ?_⟩
  refine ⟨p, env, μ, _, rfl, sr, hw, fun kd d env1 μ1 p1 w h1 sr1 st1 vr1 => ?_⟩
  obtain ⟨env2, p2, h2, hh, lo, sr2, st2, fz⟩ := esc_ok sr1 st1 vr1 h1
  rw [← hh]
  exact h4 σ p2 env2 μ1 _ _ sr2 h2 fun xs env3 μ3 p3 qs h3 sr3 st3 fp hn =>
    post (d :: xs) env3 μ3 p3 ((q, w) :: qs) h3 sr3 (st2.trans st3) ⟨q, w, qs, rfl, hq, Fz.le st3.le _ _ fz, fp⟩ (by rw [List.map_cons, List.filterMap_cons, hq, hn])
theorem pv_dict {keys : List (Option Expr)} {values : List Expr} {ks : List D} (h : PDs X N z pos keys values ks ees) (h0 : keys ≠ []) (h15 : keys.length ≤ 15) (hnd : (ks.filterMap keyV).Nodup) : PE X (.Dict keys values pos) (tE X.K N z (.dict ks ees)) := by
  obtain ⟨⟨hall, hl, hl2, hl3⟩, trs, hp, hs⟩ := h
  refine peImp (pe_disp hp hall hl h0 h15) fun σ H Q h => ?_
  obtain ⟨p, env, μ, Po, rfl, sr, hw, post⟩ := h
  intro b hb
  let p1 : Ph := ⟨p.θ, updW p.W b (some .tmp), upd p.H b (.dK [])⟩
  have ext1 : Ext p p1 := ⟨rfl, fun c o q => ⟨(upd_ne (ne_of_none q hb)).trans q, updW_ne (ne_of_none q hb)⟩, fun c o q => by
    by_cases hc : c = b
    · subst hc; exact .inr ⟨_, upd_same, trivial⟩
    · exact .inl ((updW_ne hc).symm.trans q)⟩
  refine hs σ p1 env μ _ _ (sr.ext ext1) hw fun xs env' μ' p2 qs hpo sr2 st2 fp hn => ?_
  have b1 : p1.H b = some (.dK []) := upd_same
  have wb1 : p1.W b = some .tmp := updW_same
  obtain ⟨b2, wb2⟩ := st2.keep b _ b1 (by rw [wb1]; rfl)
  rw [wb1] at wb2
  refine ⟨b2, qs, rfl, ?_, ?_⟩
  · have := congrArg List.length hn
    rw [List.length_map] at this
    rw [this]
    refine Nat.le_trans (List.length_filterMap_le _ _) ?_
    omega
  · rw [mergeK_nodup _ [] (by rw [List.nil_append, hn]; exact hnd), List.nil_append]
    have pt := sr2.putT (o := .dK qs) wb2 trivial
    refine post .fresh _ env' μ' ⟨p2.θ, p2.W, upd p2.H b (.dK qs)⟩ (.ref b) hpo pt.1 ?_ ⟨b, qs, rfl, ⟨wb2, upd_same, hb⟩, FzKV.le pt.2 _ _ fp⟩
    have s2 := ext1.step.trans st2
    refine ⟨s2.th, fun a o q t => ?_, fun a q => ?_⟩
    · obtain ⟨x, y⟩ := s2.keep a o q t
      exact ⟨(upd_ne (ne_of_none q hb)).trans x, y⟩
    · by_cases ne : a = b
      · subst ne; show upd p2.H a _ a ≠ none; rw [upd_same]; exact fun z => nomatch z
      · show upd p2.H b _ a ≠ none
        rw [upd_ne ne]; exact s2.dom a q
/-! ### list(range) -/
theorem fz_rg {K : PySem.W.Frag} {p : Ph} (a : Int) : ∀ (n : Nat) (f : Nat → Int), FzL K p ((List.range n).map fun i => D.int (f i)) ((List.range n).map fun i => V.int (f i))
  | 0, f => rfl
  | n + 1, f => by
    rw [List.range_succ_eq_map, List.map_cons, List.map_cons, List.map_map, List.map_map]
    exact ⟨_, _, rfl, rfl, fz_rg a n (f ∘ Nat.succ)⟩
theorem pv_lrange {a : Expr} {q q2 : Pos} (hc : X.calm = true) (hg : Gl X "list") (hm : X.mg "list" = none) (hg2 : Gl X "range") (hm2 : X.mg "range" = none) (ha : PE X a (tE X.K N z ea))
    (na : starEach [a] X.env = (false, eval a X.env) :: starEach [] X.env := by rfl) (ne : starEach [.Call (.Name "range" q2) [a] [] p2] X.env = (false, eval (.Call (.Name "range" q2) [a] [] p2) X.env) :: starEach [] X.env := by rfl) :
    PE X (.Call (.Name "list" q) [.Call (.Name "range" q2) [a] [] p2] [] pos) (tE X.K N z (.lrange ea)) := by
  refine peImp (pe_listRg hc hg hm (prg_1 hg2 hm2 ha na) ne) fun σ H Q h => ?_
  obtain ⟨p, env, μ, Po, rfl, sr, hw, post⟩ := h
  refine ⟨p, env, μ, _, rfl, sr, hw, fun k x env1 μ1 p1 v h1 sr1 st1 vr1 => ?_⟩
  obtain ⟨j, rfl, hj, h1⟩ := h1
  obtain rfl : v = .int j := vr1.an sr1
  refine ⟨j, rfl, ⟨by omega, by omega, by omega, by omega, by omega⟩, fun c hc => ?_⟩
  have n := new_lst (K := X.K) (ds := rangeL 0 j.toNat) (vs := rgV 0 j) hc (by
    have := fz_rg (K := X.K) (p := p1) 0 j.toNat fun i => 0 + (i : Int)
    unfold rangeL rgV
    rw [Int.sub_zero]
    exact this)
  exact post .fresh _ env1 μ1 _ _ h1 (sr1.ext n.1) (st1.trans n.1.step) (n.2.vr st1)
def tLstRgA (te : L2.St → Hp → (Int → Int → Hp → Prop) → Prop) : TE := fun σ H Q => te σ H fun a b H1 => (b - a).toNat ≤ 2 ^ 24 ∧ ∀ q, H1 q = none → Q (.ref q) (upd H1 q (.lst (rgV a b)))
theorem pe_listRgA {e : Expr} {te : L2.St → Hp → (Int → Int → Hp → Prop) → Prop} {q pos : Pos} (hc : X.calm = true) (hg : Gl X "list") (hm : X.mg "list" = none) (he : PRg X e te) (na : starEach [e] X.env = (false, eval e X.env) :: starEach [] X.env := by rfl) : PE X (.Call (.Name "list" q) [e] [] pos) (tLstRgA te) := by
  refine ⟨fun pins s σ H Q I h => ?_⟩
  refine Call_ (ld_blt I hg hm boot_list (PyProof.Rows.callWith_type1 (args_cons (thn (he pins s σ H _ I h) fun x s1 ⟨rg, a, b, t, u, v, H1, ex, hr, I1, hz, q⟩ => args_nil ?_) na) na))
  subst ex
  have fin : ∀ (h' : Heap) (tk : Nat) (xs : Array Value) (c' : Nat), (∀ c o, s1.heap.get? c = some o → h'.get? c = some o) → h'.get? s1.heap.objs.size = some { cls := .type "list", dict := none, data := .seq xs c', slots := #[] } →
      ItemsOf (fun i v => ∃ t, v = .int (a + i * 1) t) xs (b - a).toNat → ∃ v H', Inv X pins σ H' { s1 with heap := h', toks := tk } ∧ RelV v (.ref s1.heap.objs.size) ∧ Q v H' := fun h' tk xs c' keep e' hi => by
    refine ⟨.ref s1.heap.objs.size, upd H1 s1.heap.objs.size (.lst (rgV a b)), I1.laid keep (Nat.le_refl _) (show ObjOk X.prog X.w _ _ _ (.lst (rgV a b)) from ⟨?_, xs.toList, c', vals_rg hi, ?_⟩), rfl, q _ (I1.hok.fresh (Nat.le_refl _))⟩
    · rw [rgV_length, sizeLine_eq]; omega
    · rw [Array.toArray_toList]; exact e'
  cases hs : Builtin.Range.small a b 1 with
  | true => exact call_list_range (n := (b - a).toNat) (I1.ok.hd hc) hr hs (rangeSize_nat a b) hz fin
  | false => exact list_far (m := (b - a).toNat) (I1.ok.hd hc) hr hs (rangeSize_nat a b) hz fin
theorem pv_lrange2 {a b : Expr} {eb : E} {q q2 : Pos} (hc : X.calm = true) (hg : Gl X "list") (hm : X.mg "list" = none) (hg2 : Gl X "range") (hm2 : X.mg "range" = none) (ha : PE X a (tE X.K N z ea)) (hb : PE X b (tE X.K N z eb))
    (na : starEach [a, b] X.env = (false, eval a X.env) :: starEach [b] X.env := by rfl) (nb : starEach [b] X.env = (false, eval b X.env) :: starEach [] X.env := by rfl) (hp : (backTo p2 (starEach [b] X.env)).any (·.1) = false := by rfl)
    (ne : starEach [.Call (.Name "range" q2) [a, b] [] p2] X.env = (false, eval (.Call (.Name "range" q2) [a, b] [] p2) X.env) :: starEach [] X.env := by rfl) :
    PE X (.Call (.Name "list" q) [.Call (.Name "range" q2) [a, b] [] p2] [] pos) (tE X.K N z (.lrange2 ea eb)) := by
  refine peImp (pe_listRgA hc hg hm (prg_2 hg2 hm2 ha hb na nb hp) ne) fun σ H Q h => ?_
  obtain ⟨p, env, μ, Po, rfl, sr, hw, post⟩ := h
  refine ⟨p, env, μ, _, rfl, sr, hw, fun k x env1 μ1 p1 v h1 sr1 st1 vr1 => ⟨p1, env1, μ1, _, rfl, sr1, h1, fun k' y env2 μ2 p3 w h2 sr2 st2 vr2 => ?_⟩⟩
  obtain ⟨i, j, ⟨rfl, rfl⟩, hj, h2⟩ := h2
  obtain rfl : v = .int i := vr1.an sr1
  obtain rfl : w = .int j := vr2.an sr2
  refine ⟨i, j, rfl, rfl, by omega, fun c hc => ?_⟩
  have n := new_lst (K := X.K) (ds := rangeL i (j - i).toNat) (vs := rgV i j) hc (by
    have := fz_rg (K := X.K) (p := p3) 0 (j - i).toNat fun k => i + (k : Int)
    unfold rangeL rgV
    exact this)
  exact post .fresh _ env2 μ2 _ _ h2 (sr2.ext n.1) ((st1.trans st2).trans n.1.step) (n.2.vr (st1.trans st2))
end
end Pv

set_option autoImplicit false
set_option linter.all false
set_option Elab.async false
set_option maxRecDepth 100000
namespace Pv
open PySem PySem.Spec PyProof.Rows L2
section
variable {X : Cx} {N : Hp} {z : Ev} {C : CallFn} {G : String → Option D} {pos p2 : Pos} {e : Expr} {es : List Expr} {ea : E} {ees : List E}
/-! ### a, b = x, y by way of a tuple -/
theorem ext_tmp {K : PySem.W.Frag} {p : Ph} {a : Addr} {vs : List V} (h : p.H a = none) : Ext p ⟨p.θ, updW p.W a none, upd p.H a (.tup vs)⟩ :=
  ⟨rfl, fun b o q => ⟨(upd_ne (ne_of_none q h)).trans q, updW_ne (ne_of_none q h)⟩, fun b o q => by
    by_cases hb : b = a
    · subst hb
      have : updW p.W b none b = some o := q
      rw [updW_same] at this; cases this
    · exact .inl ((updW_ne hb).symm.trans q)⟩
theorem FsP.ext {K : PySem.W.Frag} {p p' : Ph} (e : Ext p p') {N : Hp} {fs : List (List Nat × Nat × D)} {vs : List V} (h : FsP K p N fs vs) : FsP K p' N fs vs := FsP.step e.step h
theorem pvs_parT2 {i j : Nat} {x y : Str} {a b : Expr} {ea eb : E} {px py pt pt2 : Pos} {kt k2 : Nat} (hc : X.calm = true) (hN : X.N.Nodup) (hi : X.N[i]? = some x) (hj : X.N[j]? = some y)
    (hx : Loc X.env.scope x) (hy : Loc X.env.scope y) (ha : PE X a (tE X.K N ⟨C, G, noX⟩ ea)) (hb : PE X b (tE X.K N ⟨C, G, noX⟩ eb))
    (hfx : X.fn x = true ∨ X.env.scope.names.lookup x = some .local := by first | exact .inl rfl | exact .inr rfl) (hfy : X.fn y = true ∨ X.env.scope.names.lookup y = some .local := by first | exact .inl rfl | exact .inr rfl)
    (hw : swappedStores [.Tuple [.Name x px, .Name y py] kt pt] (.Tuple [a, b] k2 pt2) X.env = pure none := by rfl)
    (hs : swapsWithSole [.Tuple [.Name x px, .Name y py] kt pt] (.Tuple [a, b] k2 pt2) pos.line X.env = pure false := by rfl)
    (h0 : (assignEach [.Tuple [.Name x px, .Name y py] kt pt] X.env).map (·.2) = [assign (.Tuple [.Name x px, .Name y py] kt pt) X.env] := by rfl)
    (h1 : (assignEach [.Name x px, .Name y py] X.env).map (·.2) = assign (.Name x px) X.env :: (assignEach [.Name y py] X.env).map (·.2) := by rfl) (h1' : (assignEach [.Name y py] X.env).map (·.2) = assign (.Name y py) X.env :: (assignEach [] X.env).map (·.2) := by rfl)
    (hn : (assignEach [.Name x px, .Name y py] X.env).length = 2 := by rfl) (hst : (assignEach [.Name x px, .Name y py] X.env).findIdx? (·.1) = none := by rfl)
    (h2 : starEach [a, b] X.env = (false, eval a X.env) :: starEach [b] X.env := by rfl) (h3 : starEach [b] X.env = (false, eval b X.env) :: starEach [] X.env := by rfl) :
    PS X (.Assign [.Tuple [.Name x px, .Name y py] kt pt] (.Tuple [a, b] k2 pt2) pos) (tS X.K N C G (.par [i, j] [ea, eb])) :=
  psImpI (ps_asg (pe_tup (pvp_cons ha (pvp_cons hb pvp_nil h3) h2)) (pg_tup (n := 2) hc (pgs_cons (pg_name hN hi hx hfx) (pgs_cons (pg_name hN hj hy hfy) pgs_nil h1') h1) hn hst) hs hw h0) fun D σ H hlen h => by
  obtain ⟨p, env, μ, E, rfl, sr, hw, ok⟩ := h
  have hw : wpP C G E.xc [ea, eb] env μ fun ds env μ => E.nx (([i, j].zip ds).foldl (fun env p => env.set p.1 (some p.2)) env) μ := hw
  rw [ok.xc] at hw
  refine ⟨p, env, μ, _, rfl, sr, hw, fun xs env1 μ1 p1 vs h1 hl sr1 st1 fp => ?_⟩
  have lv := fp.len
  rw [List.length_map, hl] at lv
  obtain ⟨v, w, rfl⟩ : ∃ v w, vs = [v, w] := by
    match vs, lv with
    | [v, w], _ => exact ⟨v, w, rfl⟩
  refine ⟨(show 2 ≤ sizeLine by decide), fun c hc => ⟨c, [v, w], rfl, .inl (.inl upd_same), rfl, v, [w], rfl, w, [], rfl, rfl, ?_⟩⟩
  have ext := ext_tmp (K := X.K) (vs := [v, w]) hc
  exact par_ok (is := [i, j]) (p1 := ⟨p1.θ, updW p1.W c none, upd p1.H c (.tup [v, w])⟩) ok sr.dom hlen (fun k hk => by
    rcases List.mem_cons.mp hk with rfl | hk
    · exact (List.getElem?_eq_some_iff.mp hi).1
    · rcases List.mem_cons.mp hk with rfl | hk
      · exact (List.getElem?_eq_some_iff.mp hj).1
      · cases hk) h1 (by rw [hl]; rfl) (sr1.ext ext) (st1.trans ext.step) (fp.ext ext)
theorem pvs_parT3 {i j l : Nat} {x y r : Str} {a b c : Expr} {ea eb ec : E} {px py pr pt pt2 : Pos} {kt k2 : Nat} (hc : X.calm = true) (hN : X.N.Nodup) (hi : X.N[i]? = some x) (hj : X.N[j]? = some y) (hl' : X.N[l]? = some r)
    (hx : Loc X.env.scope x) (hy : Loc X.env.scope y) (hz : Loc X.env.scope r) (ha : PE X a (tE X.K N ⟨C, G, noX⟩ ea)) (hb : PE X b (tE X.K N ⟨C, G, noX⟩ eb)) (hcc : PE X c (tE X.K N ⟨C, G, noX⟩ ec))
    (hfx : X.fn x = true ∨ X.env.scope.names.lookup x = some .local := by first | exact .inl rfl | exact .inr rfl) (hfy : X.fn y = true ∨ X.env.scope.names.lookup y = some .local := by first | exact .inl rfl | exact .inr rfl) (hfz : X.fn r = true ∨ X.env.scope.names.lookup r = some .local := by first | exact .inl rfl | exact .inr rfl)
    (hw : swappedStores [.Tuple [.Name x px, .Name y py, .Name r pr] kt pt] (.Tuple [a, b, c] k2 pt2) X.env = pure none := by rfl)
    (hs : swapsWithSole [.Tuple [.Name x px, .Name y py, .Name r pr] kt pt] (.Tuple [a, b, c] k2 pt2) pos.line X.env = pure false := by rfl)
    (h0 : (assignEach [.Tuple [.Name x px, .Name y py, .Name r pr] kt pt] X.env).map (·.2) = [assign (.Tuple [.Name x px, .Name y py, .Name r pr] kt pt) X.env] := by rfl)
    (h1 : (assignEach [.Name x px, .Name y py, .Name r pr] X.env).map (·.2) = assign (.Name x px) X.env :: (assignEach [.Name y py, .Name r pr] X.env).map (·.2) := by rfl) (h1' : (assignEach [.Name y py, .Name r pr] X.env).map (·.2) = assign (.Name y py) X.env :: (assignEach [.Name r pr] X.env).map (·.2) := by rfl)
    (h1'' : (assignEach [.Name r pr] X.env).map (·.2) = assign (.Name r pr) X.env :: (assignEach [] X.env).map (·.2) := by rfl)
    (hn : (assignEach [.Name x px, .Name y py, .Name r pr] X.env).length = 3 := by rfl) (hst : (assignEach [.Name x px, .Name y py, .Name r pr] X.env).findIdx? (·.1) = none := by rfl)
    (h2 : starEach [a, b, c] X.env = (false, eval a X.env) :: starEach [b, c] X.env := by rfl) (h3 : starEach [b, c] X.env = (false, eval b X.env) :: starEach [c] X.env := by rfl) (h4 : starEach [c] X.env = (false, eval c X.env) :: starEach [] X.env := by rfl) :
    PS X (.Assign [.Tuple [.Name x px, .Name y py, .Name r pr] kt pt] (.Tuple [a, b, c] k2 pt2) pos) (tS X.K N C G (.par [i, j, l] [ea, eb, ec])) :=
  psImpI (ps_asg (pe_tup (pvp_cons ha (pvp_cons hb (pvp_cons hcc pvp_nil h4) h3) h2)) (pg_tup (n := 3) hc (pgs_cons (pg_name hN hi hx hfx) (pgs_cons (pg_name hN hj hy hfy) (pgs_cons (pg_name hN hl' hz hfz) pgs_nil h1'') h1') h1) hn hst) hs hw h0) fun D σ H hlen h => by
  obtain ⟨p, env, μ, E, rfl, sr, hw, ok⟩ := h
  have hw : wpP C G E.xc [ea, eb, ec] env μ fun ds env μ => E.nx (([i, j, l].zip ds).foldl (fun env p => env.set p.1 (some p.2)) env) μ := hw
  rw [ok.xc] at hw
  refine ⟨p, env, μ, _, rfl, sr, hw, fun xs env1 μ1 p1 vs h1 hl sr1 st1 fp => ?_⟩
  have lv := fp.len
  rw [List.length_map, hl] at lv
  obtain ⟨v, w, u, rfl⟩ : ∃ v w u, vs = [v, w, u] := by
    match vs, lv with
    | [v, w, u], _ => exact ⟨v, w, u, rfl⟩
  refine ⟨(show 3 ≤ sizeLine by decide), fun c hc => ⟨c, [v, w, u], rfl, .inl (.inl upd_same), rfl, v, [w, u], rfl, w, [u], rfl, u, [], rfl, rfl, ?_⟩⟩
  have ext := ext_tmp (K := X.K) (vs := [v, w, u]) hc
  exact par_ok (is := [i, j, l]) (p1 := ⟨p1.θ, updW p1.W c none, upd p1.H c (.tup [v, w, u])⟩) ok sr.dom hlen (fun k hk => by
    rcases List.mem_cons.mp hk with rfl | hk
    · exact (List.getElem?_eq_some_iff.mp hi).1
    · rcases List.mem_cons.mp hk with rfl | hk
      · exact (List.getElem?_eq_some_iff.mp hj).1
      · rcases List.mem_cons.mp hk with rfl | hk
        · exact (List.getElem?_eq_some_iff.mp hl').1
        · cases hk) h1 (by rw [hl]; rfl) (sr1.ext ext) (st1.trans ext.step) (fp.ext ext)
/-! ### the defs of a module, by their names -/
structure Fn (P : Program) (w : World) (K : PySem.W.Frag) (mg : Str → Option Value) (base : Heap) (C : CallFn) (k : Nat) (g : String) (x : Str) (ls : List Bool) : Prop where
  hm : mg x = some (.ref (He.ga K x))
  hk : PySem.W.keepIn K (.ref (He.ga K x)) = true
  cal : ∀ X : Cx, X.prog = P → X.w = w → X.K = K → X.mg = mg → X.base = base → Room k X.A → X.A.guards = some [] → CallV X C g ls (He.ga K x)
theorem pv_fn {x : Str} {g : String} {ls : List Bool} {k : Nat} {q : Pos} (F : Fn X.prog X.w X.K X.mg X.base C k g x ls) (hr : Room k X.A) (hg : X.A.guards = some []) (gl : Gl X x) (ha : PA X (e :: es) (tAp X.K N ⟨C, G, noX⟩ ls ees))
    (hdb : (x == ("__debug__" : Str)) = false := by decide) (he : starEach (e :: es) X.env = (false, eval e X.env) :: starEach es X.env := by rfl) (hpl : (backTo pos (starEach es X.env)).any (·.1) = false := by rfl) :
    PE X (.Call (.Name x q) (e :: es) [] pos) (tE X.K N ⟨C, G, noX⟩ (.call g ls ees)) := pv_call (F.cal X rfl rfl rfl rfl rfl hr hg) gl F.hm F.hk ha hdb he hpl
theorem pv_fn0 {x : Str} {g : String} {k : Nat} {q : Pos} (F : Fn X.prog X.w X.K X.mg X.base C k g x []) (hr : Room k X.A) (hg : X.A.guards = some []) (gl : Gl X x) (hdb : (x == ("__debug__" : Str)) = false := by decide) :
    PE X (.Call (.Name x q) [] [] pos) (tE X.K N ⟨C, G, noX⟩ (.call g [] [])) := pv_call0 (F.cal X rfl rfl rfl rfl rfl hr hg) gl F.hm F.hk hdb
theorem room_1 {k : Nat} {A : Around} (r : Room k A) : A.units + 1 < cLine := by have := r.un; omega
theorem room_65 {k : Nat} {A : Around} (r : Room k A) : A.units + 65 < cLine := by have := r.un; omega
theorem room_70 {k : Nat} {A : Around} (r : Room k A) : A.units + 70 < cLine := by have := r.un; omega
/-- a def, called from one level above -/
theorem fn_mk {P : Program} {w : World} {K : PySem.W.Frag} {mg : Str → Option Value} {base : Heap} {k : Nat} {fdt : FuncData} {ps Ns : List Str} {Pg : Prog} {d : Nat} {g : String} {x : Str} {fd : FD} (hm : mg x = some (.ref (He.ga K x))) (hk : PySem.W.keepIn K (.ref (He.ga K x)) = true)
    (F : FnG P w K mg base k (He.ga K x) fdt ps (spD K Ns (callN Pg d) Pg.gl fd)) (hb : Binds K fdt ps []) (hf : Pg.fn g = some fd) (hps : ps.length = fd.lent.length) (hn : fd.n = Ns.length) (hle : fd.lent.length ≤ fd.n) : Fn P w K mg base (callN Pg (d + 1)) k g x fd.lent :=
  ⟨hm, hk, fun X e1 e2 e3 e4 e5 hr hg => by
    subst e1 e2 e3 e4 e5
    exact callV_of F hr hg hb hf hps hn hle⟩
theorem fn_zero {P : Program} {w : World} {K : PySem.W.Frag} {mg : Str → Option Value} {base : Heap} {k : Nat} {Pg : Prog} {g : String} {x : Str} {ls : List Bool} (hm : mg x = some (.ref (He.ga K x))) (hk : PySem.W.keepIn K (.ref (He.ga K x)) = true) : Fn P w K mg base (callN Pg 0) k g x ls :=
  ⟨hm, hk, fun X e1 e2 e3 e4 e5 hr hg => callV_zero⟩
/-- no list stands in what the top has written -/
def noLists (K : PySem.W.Frag) : Bool := K.all fun q => !decide (q.2.cls = .type "list")
theorem noLists_ok {K : PySem.W.Frag} (h : noLists K = true) (b : Addr) (o : PySem.Obj) (e : K.lookup b = some o) : o.cls ≠ .type "list" := fun c => by
  have := List.all_eq_true.mp h (b, o) (He.lookup_mem e)
  simp [c] at this
end
end Pv
namespace Pv
open PySem PySem.Spec PyProof.Rows L2
/-! ### constants of the module -/
theorem kt_of {K : PySem.W.Frag} {a : Addr} {vs : List V} (h : ∀ H : Hp, SqT K H a vs) : KT K a vs := by
  rcases h (fun _ => none) with r | r
  · rcases r with r | ⟨o, r⟩ <;> cases r
  · exact r
theorem c_tup {K : PySem.W.Frag} {mg : Str → Option Value} {G : String → Option D} {x : Str} {n : String} {l : List D} {vs : List V} (hm : mg x = some (.ref (He.ga K x))) (hk : ∀ H : Hp, SqT K H (He.ga K x) vs) (hf : ∀ p, FzL K p l vs) (hG : G n = some (.tup l)) (hd : (x == ("__debug__" : Str)) = false) :
    ∀ {X : Cx} {N : Hp} {z : Ev} {pos : Pos}, X.mg = mg → X.K = K → z.G = G → Gl X x → PE X (.Name x pos) (tE X.K N z (.glob n)) := fun {X N z pos} e1 e2 e3 gl => by
  subst e1 e2 e3
  exact pv_glob (v := .ref (He.ga X.K x)) gl hm rfl hG (fun p => ⟨_, vs, rfl, .inl (kt_of hk), hf p⟩) hd
theorem c_str {K : PySem.W.Frag} {mg : Str → Option Value} {G : String → Option D} {x s : Str} {n : String} {l : List Nat} (hm : ∃ t, mg x = some (.str s t)) (hs : s.cps.toList = l) (hG : G n = some (.str l)) (hd : (x == ("__debug__" : Str)) = false) :
    ∀ {X : Cx} {N : Hp} {z : Ev} {pos : Pos}, X.mg = mg → X.K = K → z.G = G → Gl X x → PE X (.Name x pos) (tE X.K N z (.glob n)) := fun {X N z pos} e1 e2 e3 gl => by
  subst e1 e2 e3
  obtain ⟨t, hm⟩ := hm
  exact pv_glob (v := .str s) gl hm ⟨t, rfl⟩ hG (fun p => by show V.str s = V.str ⟨l.toArray⟩; rw [← hs]) hd
theorem c_int {K : PySem.W.Frag} {mg : Str → Option Value} {G : String → Option D} {x : Str} {n : String} {i : Int} (hm : ∃ t, mg x = some (.int i t)) (hG : G n = some (.int i)) (hd : (x == ("__debug__" : Str)) = false) :
    ∀ {X : Cx} {N : Hp} {z : Ev} {pos : Pos}, X.mg = mg → X.K = K → z.G = G → Gl X x → PE X (.Name x pos) (tE X.K N z (.glob n)) := fun {X N z pos} e1 e2 e3 gl => by
  subst e1 e2 e3
  obtain ⟨t, hm⟩ := hm
  exact pv_glob (v := .int i) gl hm ⟨t, rfl⟩ hG (fun p => rfl) hd
end Pv

set_option autoImplicit false
set_option linter.all false
set_option Elab.async false
set_option maxRecDepth 100000
namespace Pv
open PySem PySem.Spec PyProof.Rows L2
/-! ### sorted(set(list of ints)) -/
abbrev newSet (w : World) : PySem.Obj := { cls := .type "set", dict := none, data := .set #[] 0 (.fresh 0 0 (!w.params.followText "set-order")) }
abbrev afterSet (w : World) (s : Shared) : Shared := { s with heap := s.heap.push (newSet w) }
section
variable {P : Program} {w : World} {A : Around} {E : Value → Shared → Prop} {s : Shared}
set_option maxHeartbeats 0 in
/-- set.__init__ of a list of ints, on a set just made -/
theorem init_lstI {l : Addr} {xs : Array Value} (ns : List Int) (hand : A.handled = none) (isl : s.heap.IsList l xs) (are : IntsAre xs.toList ns) (few : ns.length + 1 < scanBound) :
    codeAny (model P w) A (.call (.builtin "set.__init__") ⟨[.ref s.heap.objs.size, .ref l], []⟩)
      (wants (fun r s₂ => r = .none ∧ ∃ h' tk c, s₂ = { s with heap := h', toks := tk } ∧ SetR w h' s.heap.objs.size (fun j => decide (j ∈ ns)) c ∧ c ≤ ns.length ∧ ∀ b o, s.heap.get? b = some o → h'.get? b = some o) E) (afterSet w s) := by
  have at0 : (afterSet w s).heap.get? s.heap.objs.size = some (newSet w) := Heap.get?_push_size _ rfl
  have cnt : xs.size = ns.length := by rw [← IntsAre.length are, Array.length_toList]
  refine codeAny_call_builtin F.called_set.init.plain F.entry_set_init (check_set_init_1 ⟨_, at0, rfl⟩ ?_)
  obtain ⟨⟨c0, d0, dat, sl0⟩, lget, lc, nn, ld⟩ := isl
  obtain rfl : c0 = .type "list" := lc
  obtain rfl : dat = .seq xs nn := ld
  have lt : l < s.heap.objs.size := Heap.lt_size lget
  have lget1 : (afterSet w s).heap.get? l = some ⟨.type "list", d0, .seq xs nn, sl0⟩ := Heap.get?_push_of_some _ lget
  have isl1 : (afterSet w s).heap.IsList l xs := ⟨_, lget1, rfl, nn, rfl⟩
  have nosub1 := F.sub_list_set
  have nosub2 := F.sub_list_frozenset
  have nodic : (Value.type "list" == Value.type "dict") = false := by decide
  have sz : (afterSet w s).heap.objs.size = s.heap.objs.size + 1 := Heap.size_push ..
  unfold Builtin.«set.__init__» noKeywords Builtin.Frozenset.updateFrom
  generalize itr : pyIter = it
  wp_walk
  subst itr
  refine wpAny_pyIter_list isl1 (wpAny_bind (wpAny_runValue ?_))
  have ne1 : l ≠ (afterSet w s).heap.objs.size := by rw [sz]; exact Nat.ne_of_lt (Nat.lt_succ_of_lt lt)
  have apart : s.heap.objs.size ∉ [(afterSet w s).heap.objs.size, l] := fun h => by
    rcases List.mem_cons.mp h with h | h
    · rw [sz] at h; exact absurd h (Nat.ne_of_lt (Nat.lt_succ_self _))
    · exact absurd (List.mem_singleton.mp h) (Nat.ne_of_gt lt)
  have each : ∀ (i : Nat) (v : Value), xs[i]? = some v → ∃ k t, ns[i]? = some k ∧ v = .int k t := fun i v hv => by
    obtain ⟨t, e⟩ := PyProof.Rows.IntsAre.int_at are i v (by rw [Array.getElem?_toList]; exact hv)
    have hi : i < ns.length := cnt ▸ (Array.getElem?_eq_some_iff.mp hv).1
    exact ⟨ns[i], t, List.getElem?_eq_getElem hi, by rw [e, List.getD_eq_getElem?_getD, List.getElem?_eq_getElem hi]; rfl⟩
  have hand3 : A.in1.in1.handled = none := by simp [hand]
  have at1 : ∀ o : PySem.Obj, ((afterSet w s).heap.push o).get? s.heap.objs.size = some (newSet w) := fun o => Heap.get?_push_of_some _ at0
  refine set_update_ints ((Walks.list hand3 _ l ne1 xs).toS) s.heap.objs.size apart ns cnt few each (xs.size - 0) 0 _ (by omega) (Nat.zero_le _) ?here ?start ?stop
  case here => exact ⟨⟨_, Heap.get?_push_size _ rfl, rfl, rfl⟩, (isl1.push _)⟩
  case start => exact ⟨0, Nat.le_refl 0, setR_new_at (at1 _)⟩
  rintro ⟨h', g2, d', tk', os'⟩ c' mv le set
  obtain rfl : g2 = s.gens := mv.gens
  obtain rfl : d' = s.drawn := mv.drawn
  obtain rfl : os' = s.os := mv.os
  show wpAny _ _ _ _ _ _
  refine wpAny_pure ?_
  show wpAny _ _ (ret Value.none) _ _ _
  refine wpAny_pure ⟨rfl, h', tk', c', rfl, set, cnt ▸ le, fun b o e => mv.heap b o (fun h => ?_) (Heap.get?_push_of_some _ (Heap.get?_push_of_some _ e))⟩
  have := Heap.lt_size e
  rcases List.mem_cons.mp h with h | h
  · exact absurd h (Nat.ne_of_lt this)
  · have h := List.mem_singleton.mp h
    rw [sz] at h
    exact absurd h (Nat.ne_of_lt (Nat.lt_succ_of_lt this))
set_option maxHeartbeats 0 in
/-- set(list of ints) -/
theorem set_lstI {l : Addr} {xs : Array Value} (ns : List Int) {Q : Value → Shared → Prop} (hand : A.handled = none) (isl : s.heap.IsList l xs) (are : IntsAre xs.toList ns) (few : ns.length + 1 < scanBound)
    (h : ∀ (h' : Heap) (tk c : Nat), SetR w h' s.heap.objs.size (fun j => decide (j ∈ ns)) c → c ≤ ns.length → (∀ b o, s.heap.get? b = some o → h'.get? b = some o) → Q (.ref s.heap.objs.size) { s with heap := h', toks := tk }) :
    wpAny (model P w) A (call (.type "set") [.ref l]) Q E s := by
  obtain ⟨c, tl, mro⟩ := F.called_set.mro
  have made := F.called_set.made; have sub := F.called_set.sub; have nt := F.called_set.notType; have cc := F.called_set.canCreate
  have tc := F.typeCall_set_1 (.ref l)
  refine wpAny_call (codeAny_of_tree ?_)
  show wpAny _ _ (callAny (.type "set") _) _ _ _
  refine wpAny_pure ⟨Code.quiet_builtin _ (by decide +kernel), codeAny_builtin F.entry_type_call ?_⟩
  rw [Around.under_plain (weight_type_call_type "set" [.ref l] []) rfl]
  repeat (any_goals (first | assumption | wp_step))
  have one := code_set_led1 (P := P) (w := w) (E := E) (A := A.in1) (s := s) (.ref l) (Q₁ := fun obj s₁ => obj = .ref s.heap.objs.size ∧ s₁ = afterSet w s) ⟨rfl, rfl⟩
  refine codeAny_mono one fun r s₁ hr => ?_
  match r, hr with
  | .error e, hr => exact hr
  | .ok .next, hr => exact hr.elim
  | .ok .brk, hr => exact hr.elim
  | .ok .cont, hr => exact hr.elim
  | .ok (.ret ob), hr =>
    obtain ⟨rfl, rfl⟩ := hr
    have isS : (afterSet w s).TypeIs (.ref s.heap.objs.size) "set" := ⟨_, Heap.get?_push_size _ rfl, rfl⟩
    have lk := F.called_set.init.lookup
    have bd := F.called_set.init.bind (.ref s.heap.objs.size)
    repeat (any_goals (first | assumption | wp_step))
    refine codeAny_mono (init_lstI (E := E) (A := A.in1) ns (by simpa using hand) isl are few) fun r2 s2 h2 => ?_
    match r2, h2 with
    | .error e, h2 => exact h2
    | .ok .next, h2 => exact h2.elim
    | .ok .brk, h2 => exact h2.elim
    | .ok .cont, h2 => exact h2.elim
    | .ok (.ret v), h2 =>
      obtain ⟨rfl, h', tk, c', rfl, a1, a2, a3⟩ := h2
      repeat (any_goals (first | assumption | wp_step))
      exact h _ _ _ a1 a2 a3
end
theorem mem_dedupI (x : Int) : ∀ l : List Int, x ∈ dedupI l ↔ x ∈ l
  | [] => Iff.rfl
  | y :: r => by
    have ih := mem_dedupI x r
    show (x ∈ if y ∈ dedupI r then dedupI r else y :: dedupI r) ↔ _
    by_cases h : y ∈ dedupI r
    · rw [if_pos h, ih, List.mem_cons]
      refine ⟨.inr, fun q => ?_⟩
      rcases q with rfl | q
      · exact (mem_dedupI x r).mp h
      · exact q
    · rw [if_neg h, List.mem_cons, List.mem_cons, ih]
theorem dedupI_nodup : ∀ l : List Int, (dedupI l).Nodup
  | [] => List.Pairwise.nil
  | y :: r => by
    show (if y ∈ dedupI r then dedupI r else y :: dedupI r).Nodup
    by_cases h : y ∈ dedupI r
    · rw [if_pos h]; exact dedupI_nodup r
    · rw [if_neg h]; exact List.nodup_cons.mpr ⟨h, dedupI_nodup r⟩
section
variable {X : Cx} {N : Hp} {z : Ev} {a : Expr} {ea : E} {q q2 p2 pos : Pos}
def tSortSet (K : PySem.W.Frag) (ta : TE) : TE := fun σ H Q => ta σ H fun x H1 => ∃ (l : Addr) (ns : List Int), x = V.ref l ∧ SqL K H1 l (ns.map V.int) ∧ ns.length ≤ 1000 ∧ (dedupI ns).length < 64 ∧ ∀ p, H1 p = none → Q (.ref p) (upd H1 p (.lst ((sortI (dedupI ns)).map V.int)))
theorem pe_sortSet {ta : TE} (hc : X.calm = true) (hg : Gl X "sorted") (hm : X.mg "sorted" = none) (hg2 : Gl X "set") (hm2 : X.mg "set" = none) (ha : PE X a ta) (na : starEach [a] X.env = (false, eval a X.env) :: starEach [] X.env)
    (ne : starEach [.Call (.Name "set" q2) [a] [] p2] X.env = (false, eval (.Call (.Name "set" q2) [a] [] p2) X.env) :: starEach [] X.env) :
    PE X (.Call (.Name "sorted" q) [.Call (.Name "set" q2) [a] [] p2] [] pos) (tSortSet X.K ta) := by
  refine ⟨fun pins s σ H Q I h => ?_⟩
  refine Call_ (ld_blt I hg hm PyProof.Rows.boot_sorted ?_)
  refine PyProof.Rows.callWith_builtin1 (PyProof.Rows.args_cons ?_ ne) ne rfl
  refine Call_ (ld_blt I hg2 hm2 PyProof.Rows.boot_set ?_)
  refine PyProof.Rows.callWith_type1 (PyProof.Rows.args_cons (thn (ha.run pins s σ H _ I h) fun v s1 ⟨x, H1, I1, r1, q1⟩ => PyProof.Rows.args_nil ?_) na) na rfl
  obtain ⟨l, ns, rfl, hq, h1, h64, post⟩ := q1
  obtain rfl : v = Value.ref l := r1
  obtain ⟨its, r, pl, hz⟩ := I1.list hq
  refine set_lstI ns (I1.ok.hd hc) pl.isList (by simpa using r.ints) (by unfold scanBound; omega) fun h' tk c R1 hcn k => PyProof.Rows.args_nil ?_
  have hperm : ∀ (l2 : List Int), l2.Nodup → (∀ j, j ∈ l2 ↔ decide (j ∈ ns) = true) → l2.Perm (dedupI ns) := fun l2 d m => (List.perm_ext_iff_of_nodup d (dedupI_nodup ns)).mpr fun j => by rw [m j, mem_dedupI, decide_eq_true_eq]
  have hcl : c < 64 := by
    obtain ⟨o, es, ep, t, ho, hex, hd, g, nd, hm, hb, hf, hn, hr, hl⟩ := R1
    have pe := hperm (es.toList.map keyOf) nd fun j => (hm j).symm
    have := pe.length_eq
    rw [List.length_map, Array.length_toList] at this
    omega
  refine L2.sorted_set (s := { s1 with heap := h', toks := tk }) R1 (I1.ok.hd hc) hcl fun s2 p out cc ns' kk gg oo hp hget hint hpw hmem hlen => ?_
  have kall : ∀ b u, s1.heap.get? b = some u → s2.heap.get? b = some u := fun b u e => kk b u (k b u e)
  have hsz : s1.heap.objs.size ≤ p := by
    obtain ⟨o, es, ep, t, ho, _⟩ := R1
    exact Nat.le_trans (Nat.le_of_lt (Heap.lt_size ho)) hp
  have nd' : ns'.Nodup := hpw.imp fun h => by omega
  have e1 : ns' = sortI (dedupI ns) := sortI_uniq (hperm ns' nd' hmem) (hpw.imp fun h => by omega)
  have I2 : Inv X pins σ H1 s2 := I1.call' (ch := []) oo (Un.kept kall) (I1.hok.kept kall) (by rw [gg]; exact I1.bare) fun _ z => nomatch z
  have fr := I1.hok.fresh hsz
  have new : ObjOk X.prog X.w (upd H1 p (.lst (ns'.map V.int))) s2.heap p (.lst (ns'.map V.int)) :=
    ⟨by rw [List.length_map, hlen]; exact Nat.le_trans (Nat.le_of_lt hcl) (by decide), out.toList, cc, vals_ints hint, by rw [Array.toArray_toList]; exact hget⟩
  have I3 : Inv X pins σ (upd H1 p (.lst (ns'.map V.int))) s2 := I1.call' (ch := []) oo (Un.laid kall hsz fr) (I1.hok.laid kall hsz new) (by rw [gg]; exact I1.bare) fun _ z => nomatch z
  rw [e1] at I3
  exact ⟨.ref p, _, I3, rfl, post p fr⟩
theorem pv_sset (hc : X.calm = true) (hg : Gl X "sorted") (hm : X.mg "sorted" = none) (hg2 : Gl X "set") (hm2 : X.mg "set" = none) (ha : PE X a (tE X.K N z ea))
    (na : starEach [a] X.env = (false, eval a X.env) :: starEach [] X.env := by rfl) (ne : starEach [.Call (.Name "set" q2) [a] [] p2] X.env = (false, eval (.Call (.Name "set" q2) [a] [] p2) X.env) :: starEach [] X.env := by rfl) :
    PE X (.Call (.Name "sorted" q) [.Call (.Name "set" q2) [a] [] p2] [] pos) (tE X.K N z (.sset ea)) := by
  refine peImp (pe_sortSet hc hg hm hg2 hm2 ha na ne) fun σ H Q h => ?_
  obtain ⟨p, env, μ, Po, rfl, sr, hw, post⟩ := h
  refine ⟨p, env, μ, _, rfl, sr, hw, fun k x env1 μ1 p1 v h1 sr1 st1 vr1 => ?_⟩
  obtain ⟨l, ns, rfl, hi, hl, h64, h1⟩ := h1
  obtain ⟨b, vs, rfl, rd, fl⟩ := vr1.an sr1
  obtain ⟨_, rfl⟩ := ints_an fl hi
  refine ⟨b, ns, rfl, .inl rd, hl, h64, fun c hc => ?_⟩
  have n := new_lst (K := X.K) hc (fzInts (K := X.K) (p := p1) (sortI (dedupI ns)))
  exact post .fresh _ env1 μ1 _ _ h1 (sr1.ext n.1) (st1.trans n.1.step) (n.2.vr st1)
end
end Pv

set_option autoImplicit false
set_option linter.all false
set_option Elab.async false
set_option maxRecDepth 100000
namespace Pv
open PySem PySem.Spec PyProof.Rows L2
section
variable {X : Cx} {N : Hp} {z : Ev} {pos : Pos} {tg e : Expr} {ea eb : E}
theorem wk_down {K : PySem.W.Frag} {p : Ph} {lo : Int} {n : Nat} : Wk K (Itc lo (-1) n) p (downL lo n) := fun i q s => by
  refine ⟨fun hl => by have : (downL lo n).length = n := by simp [downL]
                       exact this ▸ hl, fun d hd => ?_⟩
  have : i < n ∧ d = .int (lo - (i : Int)) := by
    unfold downL at hd
    rw [List.getElem?_map] at hd
    by_cases h : i < n
    · rw [List.getElem?_range h] at hd
      exact ⟨h, (Option.some.inj hd).symm⟩
    · rw [List.getElem?_eq_none (by simpa using h)] at hd; cases hd
  refine ⟨this.1, fun x H' hy => ?_⟩
  obtain ⟨rfl, rfl⟩ := hy
  refine ⟨q, rfl, .refl, ?_⟩
  rw [this.2]
  show V.int _ = V.int _
  congr 1
  omega
theorem pvi_rngD {a b : Expr} {k : Nat} {q p1 p2 : Pos} (hg : Gl X "range") (hm : X.mg "range" = none) (ha : PE X a (tE X.K N z ea)) (hb : PE X b (tE X.K N z eb))
    (hs : starEach [a, b, .UnaryOp .USub (.Constant (.int 1) k p1) p2] X.env = (false, eval a X.env) :: starEach [b, .UnaryOp .USub (.Constant (.int 1) k p1) p2] X.env := by rfl)
    (hs2 : starEach [b, .UnaryOp .USub (.Constant (.int 1) k p1) p2] X.env = (false, eval b X.env) :: starEach [.UnaryOp .USub (.Constant (.int 1) k p1) p2] X.env := by rfl)
    (hs3 : starEach [.UnaryOp .USub (.Constant (.int 1) k p1) p2] X.env = (false, eval (.UnaryOp .USub (.Constant (.int 1) k p1) p2) X.env) :: starEach [] X.env := by rfl)
    (hpl : (backTo pos (starEach [b, .UnaryOp .USub (.Constant (.int 1) k p1) p2] X.env)).any (·.1) = false := by rfl) :
    PI X tg (.Call (.Name "range" q) [a, b, .UnaryOp .USub (.Constant (.int 1) k p1) p2] [] pos) (tI X.K N z (.rngD ea eb)) := by
  refine piImp (pi_range3 hg hm (pa_cons ha (pa_cons hb (pa_cons (pe_un un_neg pe_int) pa_nil hs3) hs2) hs) hs hpl) fun σ H R h => ?_
  obtain ⟨p, env, μ, Po, rfl, sr, hw, post⟩ := h
  refine ⟨p, env, μ, _, rfl, sr, hw, fun k x env1 μ1 p1 v h1 sr1 st1 vr1 => ⟨p1, env1, μ1, _, rfl, sr1, h1, fun k' y env2 μ2 p2 w h2 sr2 st2 vr2 => ?_⟩⟩
  obtain ⟨i, j, ⟨rfl, rfl⟩, hj, h2⟩ := h2
  obtain rfl : v = .int i := vr1.an sr1
  obtain rfl : w = .int j := vr2.an sr2
  exact ⟨1, rfl, i, j, -1, _, rfl, RgC.neg (by omega) (by omega) (by omega) (by omega), post _ env2 μ2 p2 _ h2 sr2 (st1.trans st2) wk_down⟩
end
end Pv

set_option autoImplicit false
set_option linter.all false
set_option Elab.async false
set_option maxRecDepth 100000
namespace Pv
open PySem PySem.Spec PyProof.Rows L2
/-! ### sum, all, any, max and min of a list -/
theorem bools_an {K : PySem.W.Frag} {p : Ph} : ∀ {ds : List D} {vs : List V} {bs : List Bool}, FzL K p ds vs → boolsOf ds = some bs → ds = bs.map .bl ∧ vs = bs.map V.bl
  | [], vs, bs, h, e => by
    rw [show vs = [] from h]
    obtain rfl : [] = bs := Option.some.inj e
    exact ⟨rfl, rfl⟩
  | d :: r, vs, bs, h, e => by
    obtain ⟨v, ws, rfl, z, t⟩ := h
    cases d <;> simp only [boolsOf, reduceCtorEq] at e
    rename_i b
    cases q : boolsOf r with
    | none => rw [q] at e; cases e
    | some ms =>
      rw [q] at e
      obtain rfl : b :: ms = bs := Option.some.inj e
      obtain ⟨e1, e2⟩ := bools_an t q
      rw [show v = .bl b from z]
      exact ⟨by rw [List.map_cons, ← e1], by rw [List.map_cons, ← e2]⟩
theorem maxI_mem : ∀ {ns : List Int}, ns ≠ [] → maxI ns ∈ ns
  | [], h => absurd rfl h
  | x :: r, _ => by
    unfold maxI
    by_cases hr : r = []
    · rw [if_pos hr]; exact List.mem_cons_self
    · rw [if_neg hr]
      split
      · exact List.mem_cons_of_mem _ (maxI_mem hr)
      · exact List.mem_cons_self
theorem maxI_ge : ∀ {ns : List Int} {y : Int}, y ∈ ns → y ≤ maxI ns
  | x :: r, y, h => by
    unfold maxI
    by_cases hr : r = []
    · rw [if_pos hr]; subst hr
      rcases List.mem_cons.mp h with rfl | h
      · exact Int.le_refl _
      · cases h
    · rw [if_neg hr]
      rcases List.mem_cons.mp h with rfl | h
      · split <;> omega
      · have := maxI_ge h
        split <;> omega
theorem maxI_eq {ns : List Int} {m : Int} (h : m ∈ ns) (u : ∀ y, y ∈ ns → y ≤ m) : m = maxI ns := by
  have h1 := maxI_ge h
  have h2 := u _ (maxI_mem (List.ne_nil_of_mem h))
  omega
theorem minI_mem : ∀ {ns : List Int}, ns ≠ [] → minI ns ∈ ns
  | [], h => absurd rfl h
  | x :: r, _ => by
    unfold minI
    by_cases hr : r = []
    · rw [if_pos hr]; exact List.mem_cons_self
    · rw [if_neg hr]
      split
      · exact List.mem_cons_of_mem _ (minI_mem hr)
      · exact List.mem_cons_self
theorem minI_le : ∀ {ns : List Int} {y : Int}, y ∈ ns → minI ns ≤ y
  | x :: r, y, h => by
    unfold minI
    by_cases hr : r = []
    · rw [if_pos hr]; subst hr
      rcases List.mem_cons.mp h with rfl | h
      · exact Int.le_refl _
      · cases h
    · rw [if_neg hr]
      rcases List.mem_cons.mp h with rfl | h
      · split <;> omega
      · have := minI_le h
        split <;> omega
theorem minI_eq {ns : List Int} {m : Int} (h : m ∈ ns) (u : ∀ y, y ∈ ns → m ≤ y) : m = minI ns := by
  have h1 := minI_le h
  have h2 := u _ (minI_mem (List.ne_nil_of_mem h))
  omega
section
variable {X : Cx}
theorem cr_sum (hc : X.calm = true) : CallR X (.builtin "sum") (rBlt X.K (bltP .sum)) := by
  intro pins s σ H xs us Q I r h
  obtain ⟨p, ds, R, rfl, lab, al, hb, q⟩ := h
  change sumP ds R at hb
  unfold sumP at hb
  split at hb
  · obtain ⟨v, _, rfl, ⟨a, vs, rfl, z, f⟩, rfl⟩ := al
    obtain ⟨ns, e, hb⟩ := hb
    obtain ⟨_, e2⟩ := ints_an f e
    exact L2.cr_sum hc pins s σ _ _ us Q I r ⟨a, ns, rfl, .inl (e2 ▸ z), q _ p _ hb .refl rfl⟩
  · exact hb.elim
theorem cr_all (hc : X.calm = true) : CallR X (.builtin "all") (rBlt X.K (bltP .all)) := by
  intro pins s σ H xs us Q I r h
  obtain ⟨p, ds, R, rfl, lab, al, hb, q⟩ := h
  change allP ds R at hb
  unfold allP at hb
  split at hb
  · obtain ⟨v, _, rfl, ⟨a, vs, rfl, z, f⟩, rfl⟩ := al
    obtain ⟨ns, e, hb⟩ := hb
    obtain ⟨_, e2⟩ := bools_an f e
    exact L2.cr_all hc pins s σ _ _ us Q I r ⟨a, ns, rfl, .inl (e2 ▸ z), q _ p _ hb .refl rfl⟩
  · exact hb.elim
theorem cr_any (hc : X.calm = true) : CallR X (.builtin "any") (rBlt X.K (bltP .any)) := by
  intro pins s σ H xs us Q I r h
  obtain ⟨p, ds, R, rfl, lab, al, hb, q⟩ := h
  change anyP ds R at hb
  unfold anyP at hb
  split at hb
  · obtain ⟨v, _, rfl, ⟨a, vs, rfl, z, f⟩, rfl⟩ := al
    obtain ⟨ns, e, hb⟩ := hb
    obtain ⟨_, e2⟩ := bools_an f e
    exact L2.cr_any hc pins s σ _ _ us Q I r ⟨a, ns, rfl, .inl (e2 ▸ z), q _ p _ hb .refl rfl⟩
  · exact hb.elim
theorem len_pos {ns : List Int} (h : ns ≠ []) : 0 < ns.length := List.length_pos_iff.mpr h
theorem cr_maxL (hc : X.calm = true) : CallR X (.builtin "max") (rBlt X.K (bltP .maxL)) := by
  intro pins s σ H xs us Q I r h
  obtain ⟨p, ds, R, rfl, lab, al, hb, q⟩ := h
  change maxLP ds R at hb
  unfold maxLP at hb
  split at hb
  · obtain ⟨v, _, rfl, ⟨a, vs, rfl, z, f⟩, rfl⟩ := al
    obtain ⟨ns, e, hne, hb⟩ := hb
    obtain ⟨_, e2⟩ := ints_an f e
    refine L2.cr_max hc pins s σ _ _ us Q I r ⟨a, ns, rfl, .inl (e2 ▸ z), len_pos hne, fun m h1 h2 => ?_⟩
    rw [maxI_eq h1 h2]
    exact q _ p _ hb .refl rfl
  · exact hb.elim
theorem cr_minL (hc : X.calm = true) : CallR X (.builtin "min") (rBlt X.K (bltP .minL)) := by
  intro pins s σ H xs us Q I r h
  obtain ⟨p, ds, R, rfl, lab, al, hb, q⟩ := h
  change minLP ds R at hb
  unfold minLP at hb
  split at hb
  · obtain ⟨v, _, rfl, ⟨a, vs, rfl, z, f⟩, rfl⟩ := al
    obtain ⟨ns, e, hne, hb⟩ := hb
    obtain ⟨_, e2⟩ := ints_an f e
    refine L2.cr_min hc pins s σ _ _ us Q I r ⟨a, ns, rfl, .inl (e2 ▸ z), len_pos hne, fun m h1 h2 => ?_⟩
    rw [minI_eq h1 h2]
    exact q _ p _ hb .refl rfl
  · exact hb.elim
end
section
variable {X : Cx} {N : Hp} {z : Ev} {pos : Pos} {ek ev : E}
theorem step_put2 {p p1 p2 : Ph} {b : Addr} {o : HO} (s : Step p1 p2) (e : Ext p p1) (hb : p.H b = none) : Step p ⟨p2.θ, p2.W, upd p2.H b o⟩ := by
  have s2 := e.step.trans s
  refine ⟨s2.th, fun a o q t => ?_, fun a q => ?_⟩
  · obtain ⟨x, y⟩ := s2.keep a o q t
    exact ⟨(upd_ne (ne_of_none q hb)).trans x, y⟩
  · by_cases ne : a = b
    · subst ne; show upd p2.H a _ a ≠ none; rw [upd_same]; exact fun z => nomatch z
    · show upd p2.H b _ a ≠ none
      rw [upd_ne ne]; exact s2.dom a q
/-! ### a dict with one key that is reckoned -/
theorem pv_dict1 {k v : Expr} (hk : PE X k (tE X.K N z ek)) (hv : PE X v (tE X.K N z ev)) : PE X (.Dict [some k] [v] pos) (tE X.K N z (.dict1 ek ev)) := by
  refine peImp (pe_disp (pps_cons hk hv pps_nil) rfl rfl (by simp) (by simp)) fun σ H Q h => ?_
  obtain ⟨p, env, μ, Po, rfl, sr, hw, post⟩ := h
  intro b hb
  have ext1 : Ext p ⟨p.θ, updW p.W b (some .tmp), upd p.H b (.dK [])⟩ := (new_dic (K := X.K) (ds := []) (vs := []) hb rfl).1
  generalize hp1 : (⟨p.θ, updW p.W b (some .tmp), upd p.H b (.dK [])⟩ : Ph) = p1 at ext1
  have b1 : p1.H b = some (.dK []) := by rw [← hp1]; exact upd_same
  have w1 : p1.W b = some .tmp := by rw [← hp1]; exact updW_same
  have e1 : p1.H = upd p.H b (.dK []) := by rw [← hp1]
  rw [← e1]
  refine ⟨p1, env, μ, _, rfl, sr.ext ext1, hw, fun kk x env2 μ2 p2 w h2 sr2 st2 vr2 => ⟨p2, env2, μ2, _, rfl, sr2, h2, fun kd d env3 μ3 p3 u h3 sr3 st3 vr3 => ?_⟩⟩
  obtain ⟨env4, p4, h4, hh, lo, sr4, st4, fz⟩ := esc_ok sr3 st3 vr3 h3
  obtain ⟨kx, h4⟩ := h4
  obtain ⟨q, hq⟩ := isKey_of kx
  have ev := key_an hq (vr2.an sr2)
  show _ ∧ _
  rw [← hh]
  have s4 : Step p1 p4 := st2.trans st4
  obtain ⟨b4, wb4⟩ := s4.keep b _ b1 (by rw [w1]; rfl)
  rw [w1] at wb4
  refine ⟨b4, [(q, u)], by rw [ev]; rfl, by simp, ?_⟩
  have pt := sr4.putT (o := .dK [(q, u)]) wb4 trivial
  exact post .fresh _ env4 μ3 ⟨p4.θ, p4.W, upd p4.H b (.dK [(q, u)])⟩ (.ref b) h4 pt.1 (step_put2 s4 ext1 hb) ⟨b, [(q, u)], rfl, ⟨wb4, upd_same, hb⟩, FzKV.le pt.2 [(x, d)] _ ⟨q, u, [], rfl, hq, fz, rfl⟩⟩
end
end Pv

set_option autoImplicit false
set_option linter.all false
set_option Elab.async false
set_option maxRecDepth 100000
namespace Pv
open PySem PySem.Spec PyProof.Rows L2
section
variable {X : Cx} {N : Hp} {z : Ev} {pos p2 : Pos} {a b k e c tg iter kx vx : Expr} {ea eb ek ev : E} {es : List Expr} {ees : List E}
/-! ### displays with a star -/
def tLSp (K : PySem.W.Frag) (N : Hp) (z : Ev) (bs : List Bool) (es : List E) : TA := fun σ H Q => ∃ p env μ Po, p.H = H ∧ SR K N p env μ σ ∧ wpLS z.C z.G z.X bs es env μ Po ∧
  ∀ ds env' μ' p' vs, Po ds env' μ' → SR K N p' env' μ' σ → Step p p' → FzL K p' ds vs → Q vs p'.H
theorem pvs0_nil : PA X [] (tLSp X.K N z [] []) := paImp pa_nil fun σ H Q h => by
  obtain ⟨p, env, μ, Po, rfl, sr, hw, post⟩ := h
  exact post [] env μ p [] hw sr .refl rfl
theorem pvs0_one {bs : List Bool} (ha : PE X e (tE X.K N z ea)) (hr : PA X es (tLSp X.K N z bs ees)) (hs : starEach (e :: es) X.env = (false, eval e X.env) :: starEach es X.env := by rfl) : PA X (e :: es) (tLSp X.K N z (false :: bs) (ea :: ees)) := by
  refine paImp (pa_cons ha hr hs) fun σ H Q h => ?_
  obtain ⟨p, env, μ, Po, rfl, sr, hw, post⟩ := h
  refine ⟨p, env, μ, _, rfl, sr, hw, fun k x env1 μ1 p1 v h1 sr1 st1 vr1 => ?_⟩
  obtain ⟨env2, p2, h2, hh, lo, sr2, st2, fz⟩ := esc_ok (R := fun env => wpLS z.C z.G z.X bs ees env μ1 fun xs env μ => Po (x :: xs) env μ) sr1 st1 vr1 h1
  refine ⟨p2, env2, μ1, _, hh, sr2, h2, fun ds env3 μ3 p3 vs h3 sr3 st3 fl => ?_⟩
  exact post (x :: ds) env3 μ3 p3 (v :: vs) h3 sr3 (st2.trans st3) ⟨v, vs, rfl, Fz.le st3.le _ _ fz, fl⟩
theorem pvs0_star {bs : List Bool} {sp : Pos} (ha : PE X e (tE X.K N z ea)) (hr : PA X es (tLSp X.K N z bs ees)) (hs : starEach (.Starred e sp :: es) X.env = (true, eval e X.env) :: starEach es X.env := by rfl) : PA X (.Starred e sp :: es) (tLSp X.K N z (true :: bs) (ea :: ees)) := by
  refine paImp (StX.pa_star ha hr hs) fun σ H Q h => ?_
  obtain ⟨p, env, μ, Po, rfl, sr, hw, post⟩ := h
  refine ⟨p, env, μ, _, rfl, sr, hw, fun k x env1 μ1 p1 v h1 sr1 st1 vr1 => ?_⟩
  have h1 : ∃ l, itemsOf x = some l ∧ wpLS z.C z.G z.X bs ees env1 μ1 fun xs env μ => Po (l ++ xs) env μ := h1
  obtain ⟨l, hl, h1⟩ := h1
  have go : ∀ vs, FzL X.K p1 l vs → tLSp X.K N z bs ees σ p1.H fun ys H2 => Q (vs ++ ys) H2 := fun vs f =>
    ⟨p1, env1, μ1, _, rfl, sr1, h1, fun ds env3 μ3 p3 ws h3 sr3 st3 fl => post (l ++ ds) env3 μ3 p3 (vs ++ ws) h3 sr3 (st1.trans st3) (FzL.append (FzL.le st3.le _ _ f) fl)⟩
  have an := vr1.an sr1
  cases x with
  | tup l' =>
    cases hl
    obtain ⟨a, vs, rfl, zt, f⟩ := an
    exact ⟨a, vs, rfl, .inl (zt.elim .inr fun z => .inl z.2), go vs f⟩
  | lst l' =>
    cases hl
    obtain ⟨a, vs, rfl, rd, f⟩ := an
    exact ⟨a, vs, rfl, .inr (.inl rd), go vs f⟩
  | _ => cases hl
theorem pv_tupS {k : Nat} {bs : List Bool} (h : PA X es (tLSp X.K N z bs ees)) : PE X (.Tuple es k pos) (tE X.K N z (.tupS bs ees)) := by
  refine peImp (pe_tup h) fun σ H Q h => ?_
  obtain ⟨p, env, μ, Po, rfl, sr, hw, post⟩ := h
  refine ⟨p, env, μ, _, rfl, sr, hw, fun ds env1 μ1 p1 vs h1 sr1 st1 fl => ⟨by rw [← fl.length]; exact h1.1, fun c hc => ?_⟩⟩
  have n := new_tup hc fl
  exact post .fz _ env1 μ1 _ _ h1.2 (sr1.ext n.1) (st1.trans n.1.step) n.2
theorem pv_lstS {bs : List Bool} (h : PA X es (tLSp X.K N z bs ees)) : PE X (.List es pos) (tE X.K N z (.lstS bs ees)) := by
  refine peImp (pe_lst h) fun σ H Q h => ?_
  obtain ⟨p, env, μ, Po, rfl, sr, hw, post⟩ := h
  refine ⟨p, env, μ, _, rfl, sr, hw, fun ds env1 μ1 p1 vs h1 sr1 st1 fl => ⟨by rw [← fl.length]; exact h1.1, fun c hc => ?_⟩⟩
  have n := new_lst hc fl
  exact post .fresh _ env1 μ1 _ _ h1.2 (sr1.ext n.1) (st1.trans n.1.step) (n.2.vr st1)
/-! ### l.index(x) -/
theorem toPyL_get : ∀ {l : List D} {j : Nat} {d : D}, l[j]? = some d → (toPyL l)[j]? = some (toPy d)
  | _ :: _, 0, _, h => by cases h; rfl
  | _ :: r, j + 1, _, h => toPyL_get (l := r) (j := j) h
  | [], _, _, h => by cases h
theorem toPyL_get' : ∀ {l : List D} {j : Nat} {y : PyData}, (toPyL l)[j]? = some y → ∃ d, l[j]? = some d ∧ y = toPy d
  | d :: _, 0, _, h => by cases h; exact ⟨d, rfl, rfl⟩
  | _ :: r, j + 1, _, h => toPyL_get' (l := r) (j := j) h
  | [], _, _, h => by cases h
theorem plainL_get : ∀ {l : List D} {n j : Nat} {d : D}, plainL l n = true → l[j]? = some d → plain d n = true
  | x :: r, n, 0, d, h, e => by cases e; exact (Bool.and_eq_true_iff.mp (show (plain x n && plainL r n) = true from h)).1
  | x :: r, n, j + 1, d, h, e => plainL_get (l := r) (Bool.and_eq_true_iff.mp (show (plain x n && plainL r n) = true from h)).2 e
  | [], _, _, _, _, e => by cases e
theorem pv_index {apos cpos : Pos} (hu : X.A.units + 65 < cLine) (ha : PE X a (tE X.K N z ea)) (hk : PE X k (tE X.K N z ek))
    (hbase : attributeBase a "index" X.env (eval a X.env) = eval a X.env)
    (hfew : ((backTo cpos (starEach [k] X.env)).all (fun x => !x.1) && (backToKw cpos (keywordEach [] X.env)).all (fun x => x.1.isSome)
      && decide (([k] : List Expr).length + ([] : List Keyword).length + (if ([] : List Keyword).isEmpty then 0 else 1) < 30)) = true)
    (hline : (apos.endLine == cpos.line) = true) (hs : starEach [k] X.env = (false, eval k X.env) :: starEach [] X.env := by rfl) (hplain : (backTo cpos (starEach [] X.env)).any (·.1) = false := by rfl) :
    PE X (.Call (.Attribute a "index" apos) [k] [] cpos) (tE X.K N z (.indexOf ea ek)) := by
  refine peImp (pe_bm PySem.F.plainAttrs_list PySem.F.slot_list_index PySem.F.type_list_index (mt_indexD hu) ha (pa_cons hk pa_nil hs) hbase hfew hline hs hplain) fun σ H Q h => ?_
  obtain ⟨p, env, μ, Po, rfl, sr, hw, post⟩ := h
  refine ⟨p, env, μ, _, rfl, sr, hw, fun ka x env1 μ1 p1 v h1 sr1 st1 vr1 => ?_⟩
  obtain ⟨l, rfl, h1⟩ := h1
  obtain ⟨a0, vs0, rfl, rd0, _⟩ := vr1.an sr1
  refine ⟨.inl ⟨rfl, vs0, .inl rd0⟩, p1, env1, μ1, _, rfl, sr1, h1, fun kk y env2 μ2 p2 w h2 sr2 st2 vr2 => ?_⟩
  obtain ⟨kp, j, py, pl, hj, h2⟩ := h2
  have an := vr1.later st2 sr2 kp
  have dl := dpA_of an (show plain (.lst l) 60 = true from pl)
  have dy := dpA_of (vr2.an sr2) py
  obtain ⟨hjl, hjy, hjn⟩ := List.findIdx?_eq_some_iff_getElem.mp hj
  refine ⟨a0, w, toPy y, toPyL l, j, toPy l[j], rfl, rfl, dl, dy, shaped_of (d := .lst l) pl, shaped_of py, toPyL_get (List.getElem?_eq_getElem hjl), ?_, fun m z' hm hz => ?_, post .fz _ env2 μ2 p2 _ h2 sr2 (st1.trans st2) rfl⟩
  · rw [eqv_of _ y 59 60 (plainL_get pl (List.getElem?_eq_getElem hjl)) py]; exact hjy
  · obtain ⟨d, ed, rfl⟩ := toPyL_get' hz
    rw [eqv_of d y 59 60 (plainL_get pl ed) py]
    have := hjn m hm
    rw [List.getElem?_eq_getElem (by omega)] at ed
    cases ed
    simpa using this
/-! ### dict comprehensions -/
theorem dc_read {K : PySem.W.Frag} {σ : L2.St} {H : Hp} {Q : VK} {own : List Nat} {t : T} {it : I} {conds : List E} (hv : ∀ v ∈ varsT t, v ∈ own) (h : tE K N z (.dcomp own ek ev t it conds) σ H Q) :
    tDc (tI K N z it) (gT K N t) (tC K N ⟨z.C, z.G, noX⟩ conds) (tE K N ⟨z.C, z.G, noX⟩ ek) (tE K N ⟨z.C, z.G, noX⟩ ev) own σ H Q := by
  obtain ⟨p, env, μ, Po, rfl, sr, hw, post⟩ := h
  refine ⟨p, env, μ, _, rfl, sr, hw, fun ds env0 μ0 p1 J h0 sr0 st0 wk => fun L hL => ?_⟩
  obtain ⟨hout, h0⟩ := h0
  have n := new_dic (K := K) (p := p1) (ds := []) (vs := []) hL rfl
  have srB := (sr0.ext n.1).wipeB own
  refine ⟨fun i m H => ∃ q env μ acc as, q.H = H ∧ SR K N q env μ (L2.wipe σ own) ∧ Step p1 q ∧ (m = ds.length - i ∧ i ≤ ds.length) ∧ (q.W L = some .tmp ∧ q.H L = some (.dK as)) ∧ FzKV K q acc as ∧
    dcompLoop (fun x env1 μ1 K => giveT t .fz x env1 fun env2 => wpC z.C z.G (fun _ _ _ => False) conds env2 μ1 fun c env3 μ3 =>
        if c = true then wpE z.C z.G (fun _ _ _ => False) ek env3 μ3 fun _ y env4 μ4 => wpE z.C z.G (fun _ _ _ => False) ev env4 μ4 fun kd d env5 μ5 => esc kd env5 fun env6 => isKey y = true ∧ K (some (y, d)) (wipeE env6 own) μ5
        else K none (wipeE env3 own) μ3) (ds.drop i) acc env μ fun acc env' μ' => Po .fresh (.dic acc) (back env0 env' own) μ',
    ⟨_, _, wipeE env0 own, μ0, [], [], rfl, srB, n.1.step, ⟨rfl, Nat.zero_le _⟩, ⟨updW_same, upd_same⟩, rfl, h0⟩, ?_⟩
  rintro i m H1 ⟨p2, env1, μ1, acc, as, rfl, sr1, st1, ⟨rfl, hi⟩, ⟨wL, hL1⟩, fl, hw1⟩
  cases hd : ds.drop i with
  | nil =>
    have hl : ds.length ≤ i := by
      have := congrArg List.length hd
      simp at this
      omega
    rw [hd] at hw1
    refine .inl ⟨(wk i p2 st1).1 hl, post .fresh _ _ μ1 p2 _ hw1 (sr0.backB st1.le sr1 hout) (st0.trans st1) ⟨L, as, rfl, ⟨wL, hL1, ?_⟩, fl⟩⟩
    cases q : p.H L with
    | none => rfl
    | some u => exact absurd hL (st0.dom L (by rw [q]; exact fun z => nomatch z))
  | cons x rest =>
    obtain ⟨hx, hr⟩ := drop_cons hd
    have hlt : i < ds.length := (List.getElem?_eq_some_iff.mp hx).1
    rw [hd] at hw1
    obtain ⟨go, yl⟩ := (wk i p2 st1).2 x hx
    refine .inr ⟨go, _, fun H' h' => ⟨ds.length - (i + 1), by omega, h'⟩, fun y H' hy => ?_⟩
    obtain ⟨p3, rfl, ext, fz⟩ := yl y H' hy
    have sr3 := sr1.ext ext
    refine ⟨p3, p3, env1, μ1, .fz, x, _, rfl, sr3, .refl, sr3.dom, fz, hw1, fun env4 p4 σ4 h4 sr4 st4 _ _ bt => ⟨(wipe_but bt hv).trans wipe_wipe, p4, env4, μ1, _, rfl, sr4, h4, fun b env5 μ5 p5 h5 sr5 st5 => ?_⟩⟩
    have s25 := ext.step.trans (st4.trans st5)
    have srw : ∀ {q : Ph} {e : Env} {m : Store}, SR K N q e m σ4 → SR K N q (wipeE e own) m (L2.wipe σ own) := fun h => by
      have := h.wipeB own
      rw [(wipe_but bt hv).trans wipe_wipe] at this
      exact this
    cases b with
    | false =>
      simp only [Bool.false_eq_true, if_false] at h5 ⊢
      have k5 := s25.keep L _ hL1 (by rw [wL]; rfl)
      exact ⟨p5, wipeE env5 own, μ5, acc, as, rfl, srw sr5, st1.trans s25, ⟨trivial, hlt⟩, ⟨k5.2.trans wL, k5.1⟩, FzKV.le s25.le _ _ fl, by rw [hr]; exact h5⟩
    | true =>
      simp only [if_true] at h5 ⊢
      refine ⟨p5, env5, μ5, _, rfl, sr5, h5, fun kd dk env6 μ6 p6 wk' h6 sr6 st6 vr6 => ⟨p6, env6, μ6, _, rfl, sr6, h6, fun kd2 d env7 μ7 p7 w h7 sr7 st7 vr7 => ?_⟩⟩
      obtain ⟨env8, p8, h8, hh, lo, sr8, st8, fz8⟩ := esc_ok sr7 st7 vr7 h7
      obtain ⟨kx, h8⟩ := h8
      obtain ⟨q, hq⟩ := isKey_of kx
      have ey := key_an hq (vr6.an sr6)
      have s28 := s25.trans (st6.trans st8)
      have k8 := s28.keep L _ hL1 (by rw [wL]; rfl)
      have w8 := k8.2.trans wL
      refine ⟨as, q, ey, by rw [← hh]; exact k8.1, by rw [← fl.length]; exact h8.1, ?_⟩
      have pt := (srw sr8).putT (o := .dK (putK as q w)) w8 trivial
      refine ⟨⟨p8.θ, p8.W, upd p8.H L (.dK (putK as q w))⟩, wipeE env8 own, μ7, dput acc dk d, putK as q w, by rw [hh], pt.1, ⟨fun n a q => (st1.trans s28).th n a q, fun a o q w => ?_, fun a q => ?_⟩, ⟨trivial, hlt⟩, ⟨w8, upd_same⟩, FzKV.le pt.2 _ _ (FzKV.put hq fz8 (FzKV.le s28.le _ _ fl)), by rw [hr]; exact h8.2⟩
      · have ne : a ≠ L := fun e => by rw [e, hL] at q; cases q
        have := (st1.trans s28).keep a o q w
        exact ⟨(upd_ne ne).trans this.1, this.2⟩
      · by_cases ne : a = L
        · subst ne; show upd p8.H a _ a ≠ none; rw [upd_same]; exact fun z => nomatch z
        · show upd p8.H L _ a ≠ none
          rw [upd_ne ne]; exact (st1.trans s28).dom a q
theorem pv_dc {scope : Scope} {own : List (Str × Nat)} {t : T} {it : I} {conds : List E} {ifs : List Expr} (hc : X.calm = true) (hN : X.N.Nodup) (hi : PI X tg iter (tI X.K N z it)) (ok : BlkOk X.N X.env.scope scope own) (hv : ∀ v ∈ varsT t, v ∈ own.map (·.2))
    (hg : ∀ (s : Shared) (H : Hp) (C : Addr) (cl : List (Str × Addr)) (fp : List Addr), PG (X.blk s H scope (compEnvC scope cl C X.env) fp) tg (gT X.K N t)) (ht : ∀ (s : Shared) (H : Hp) (C : Addr) (cl : List (Str × Addr)) (fp : List Addr), PTs (X.blk s H scope (compEnvC scope cl C X.env) fp) ifs (tC X.K N ⟨z.C, z.G, noX⟩ conds))
    (hk : ∀ (s : Shared) (H : Hp) (C : Addr) (cl : List (Str × Addr)) (fp : List Addr), PE (X.blk s H scope (compEnvC scope cl C X.env) fp) kx (tE X.K N ⟨z.C, z.G, noX⟩ ek))
    (he : ∀ (s : Shared) (H : Hp) (C : Addr) (cl : List (Str × Addr)) (fp : List Addr), PE (X.blk s H scope (compEnvC scope cl C X.env) fp) vx (tE X.K N ⟨z.C, z.G, noX⟩ ev)) (hs : ∀ x, foldedSetIterable iter X.env x = pure x := by intro _; rfl) :
    PE X (.DictComp kx vx [⟨tg, iter, ifs, 0⟩] scope pos) (tE X.K N z (.dcomp (own.map (·.2)) ek ev t it conds)) :=
  peImp (pe_dc hc hN hi ok hg ht hk he hs) fun σ H Q h => dc_read hv h
/-! ### zip -/
theorem Sd.step {K : PySem.W.Frag} {p p' : Ph} (s : Step p p') : ∀ {l : List D} {v : V}, Sd K p (.lst l) v → Sd K p' (.lst l) v := fun {l v} h => by
  obtain ⟨a, vs, e, w, r, f⟩ := h
  refine ⟨a, vs, e, ?_, rd_step s w r, FzL.le s.le _ _ f⟩
  rcases r with r | ⟨o, r⟩
  · rw [(s.keep a _ r w).2]; exact w
  · rw [(s.keep a _ r w).2]; exact w
theorem zipWith_get {l m : List D} {i : Nat} {d : D} (h : (List.zipWith (fun c d => D.tup [c, d]) l m)[i]? = some d) : ∃ x y, l[i]? = some x ∧ m[i]? = some y ∧ d = .tup [x, y] := by
  rw [List.getElem?_zipWith] at h
  cases hl : l[i]? with
  | none => rw [hl] at h; cases h
  | some x =>
    cases hm : m[i]? with
    | none => rw [hl, hm] at h; cases h
    | some y =>
      rw [hl, hm] at h
      cases h
      exact ⟨x, y, rfl, rfl, rfl⟩
theorem wk_zipL {K : PySem.W.Frag} {p : Ph} {a b : Addr} {l m : List D} {vs ws : List V} (w : stay (p.W a) = true) (r : Rd p.H a (.lst vs)) (f : FzL K p l vs) (w' : stay (p.W b) = true) (r' : Rd p.H b (.lst ws)) (f' : FzL K p m ws) :
    Wk K (Itz K a b) p (List.zipWith (fun c d => .tup [c, d]) l m) := fun i q s => by
  have r1 : SqL K q.H a vs := .inl (rd_step s w r)
  have f1 : FzL K q l vs := FzL.le s.le _ _ f
  have r2 : SqL K q.H b ws := .inl (rd_step s w' r')
  have f2 : FzL K q m ws := FzL.le s.le _ _ f'
  refine ⟨fun hl => ⟨vs, ws, r1, r2, by rw [← f1.length, ← f2.length]; rw [List.length_zipWith] at hl; omega⟩, fun d hd => ?_⟩
  obtain ⟨x, y, hx, hy, rfl⟩ := zipWith_get hd
  obtain ⟨u, eu, zu⟩ := f1.get hx
  obtain ⟨u', eu', zu'⟩ := f2.get hy
  refine ⟨⟨vs, ws, u, u', r1, r2, eu, eu'⟩, fun v H' hv => ?_⟩
  obtain ⟨T, x1, y1, rfl, hT, rfl, h1, h2⟩ := hv
  have e1 := h1 vs r1
  have e2 := h2 ws r2
  rw [eu] at e1; cases e1
  rw [eu'] at e2; cases e2
  have n := new_tup (K := K) (ds := [x, y]) (vs := [u, u']) hT ⟨_, _, rfl, zu, _, _, rfl, zu', rfl⟩
  exact ⟨_, rfl, n.1, n.2⟩
theorem wk_zipT {K : PySem.W.Frag} {p : Ph} {a b : Addr} {l m : List D} {vs ws : List V} (r : ZT K p a vs) (f : FzL K p l vs) (r' : ZT K p b ws) (f' : FzL K p m ws) :
    Wk K (RZ.ItzT K a b) p (List.zipWith (fun c d => .tup [c, d]) l m) := fun i q s => by
  have r1 : SqT K q.H a vs := r.elim .inr fun z => .inl (s.le.rd z.1 z.2).2
  have f1 : FzL K q l vs := FzL.le s.le _ _ f
  have r2 : SqT K q.H b ws := r'.elim .inr fun z => .inl (s.le.rd z.1 z.2).2
  have f2 : FzL K q m ws := FzL.le s.le _ _ f'
  refine ⟨fun hl => ⟨vs, ws, r1, r2, by rw [← f1.length, ← f2.length]; rw [List.length_zipWith] at hl; omega⟩, fun d hd => ?_⟩
  obtain ⟨x, y, hx, hy, rfl⟩ := zipWith_get hd
  obtain ⟨u, eu, zu⟩ := f1.get hx
  obtain ⟨u', eu', zu'⟩ := f2.get hy
  refine ⟨⟨vs, ws, u, u', r1, r2, eu, eu'⟩, fun v H' hv => ?_⟩
  obtain ⟨T, x1, y1, rfl, hT, rfl, h1, h2⟩ := hv
  have e1 := h1 vs r1
  have e2 := h2 ws r2
  rw [eu] at e1; cases e1
  rw [eu'] at e2; cases e2
  have n := new_tup (K := K) (ds := [x, y]) (vs := [u, u']) hT ⟨_, _, rfl, zu, _, _, rfl, zu', rfl⟩
  exact ⟨_, rfl, n.1, n.2⟩
theorem pvi_zip {q tpos : Pos} {elts : List Expr} {kk : Nat} (hg : Gl X "zip") (hm : X.mg "zip" = none) (ha : PE X a (tE X.K N z ea)) (hb : PE X b (tE X.K N z eb))
    (hs : starEach [a, b] X.env = (false, eval a X.env) :: starEach [b] X.env := by rfl) (hs2 : starEach [b] X.env = (false, eval b X.env) :: starEach [] X.env := by rfl) (hpl : (backTo pos (starEach [b] X.env)).any (·.1) = false := by rfl) :
    PI X (.Tuple elts kk tpos) (.Call (.Name "zip" q) [a, b] [] pos) (tI X.K N z (.zip ea eb)) := by
  refine piImp (RZ.pi_zipA hg hm (pa_cons ha (pa_cons hb pa_nil hs2) hs) hs hpl) fun σ H R h => ?_
  obtain ⟨p, env, μ, Po, rfl, sr, hw, post⟩ := h
  refine ⟨p, env, μ, _, rfl, sr, hw, fun k x env1 μ1 p1 v h1 sr1 st1 vr1 => ?_⟩
  obtain ⟨env2, p2, h2, sr2, st2, e2, sd⟩ := escI_ok sr1 st1 vr1 h1
  refine ⟨p2, env2, μ1, _, e2, sr2, h2, fun k' y env3 μ3 p3 w h3 sr3 st3 vr3 => ?_⟩
  obtain ⟨env4, p4, h4, sr4, st4, e4, sd'⟩ := escI_ok sr3 st3 vr3 h3
  obtain ⟨l, m, hlm, h4⟩ := h4
  rcases hlm with ⟨rfl, rfl⟩ | ⟨rfl, rfl⟩
  · obtain ⟨a1, vs, rfl, w1, r1, f1⟩ := Sd.step st4 sd
    obtain ⟨b1, ws, rfl, w2, r2, f2⟩ := sd'
    refine ⟨a1, b1, vs, ws, rfl, .inl ⟨.inl (e4 ▸ r1), .inl (e4 ▸ r2), ?_⟩⟩
    have := post _ env4 μ3 p4 (Itz X.K a1 b1) h4 sr4 (st2.trans st4) (wk_zipL w1 r1 f1 w2 r2 f2)
    rw [e4] at this
    exact this
  · obtain ⟨a1, vs, rfl, z1, f1⟩ := Fz.le st4.le (.tup l) _ sd
    obtain ⟨b1, ws, rfl, z2, f2⟩ := sd'
    refine ⟨a1, b1, vs, ws, rfl, .inr ⟨e4 ▸ z1.elim .inr fun z => .inl z.2, e4 ▸ z2.elim .inr fun z => .inl z.2, ?_⟩⟩
    have := post _ env4 μ3 p4 (RZ.ItzT X.K a1 b1) h4 sr4 (st2.trans st4) (wk_zipT z1 f1 z2 f2)
    rw [e4] at this
    exact this
end
end Pv

set_option autoImplicit false
set_option linter.all false
set_option Elab.async false
set_option maxRecDepth 100000
namespace Pv
open PySem PySem.Spec PyProof.Rows L2
section
variable {X : Cx} {N : Hp} {z : Ev} {pos cpos apos : Pos} {a : Expr} {ea : E}
/-! ### list(d.values()) -/
def tDVl (ta : TE) : TE := fun σ H Q => ta σ H fun x H1 => ∃ (d : Addr) (kvs : List (Key × V)), x = .ref d ∧ Rd H1 d (.dK kvs) ∧ ∀ p, H1 p = none → Q (.ref p) (upd H1 p (.lst (kvs.map (·.2))))
theorem vals_at : ∀ {vs : List V} {us : List Value}, us.length = vs.length → (∀ (j : Nat) (u : Value), us[j]? = some u → ∃ v, vs[j]? = some v ∧ RelV v u) → Vals vs us
  | [], [], _, _ => .nil
  | v :: vs, u :: us, hl, h => by
    obtain ⟨w, e, r⟩ := h 0 u rfl
    cases e
    exact .cons r (vals_at (by simpa using hl) fun j x e => h (j + 1) x e)
  | [], _ :: _, hl, _ => by simp at hl
  | _ :: _, [], hl, _ => by simp at hl
theorem kv_vals : ∀ {kvs : List (Key × V)} {vs : List (Key × Value)}, KV kvs vs → ∀ {j : Nat} {k : Key} {u : Value}, vs[j]? = some (k, u) → ∃ v, (kvs.map (·.2))[j]? = some v ∧ RelV v u := by
  intro kvs vs h
  unfold KV at h
  induction h with
  | nil => intro j k u e; cases e
  | @cons p q ps qs h t ih =>
    intro j k u e
    cases j with
    | zero => cases e; exact ⟨p.2, rfl, h.2⟩
    | succ j => exact ih e
theorem pe_dvl {ta : TE} {p0 : Pos} (hc : X.calm = true) (hg : Gl X "list") (hm : X.mg "list" = none) (ha : PE X a ta) (hbase : attributeBase a "values" X.env (eval a X.env) = eval a X.env) (hline : (apos.endLine == cpos.line) = true)
    (ne : starEach [.Call (.Attribute a "values" apos) [] [] cpos] X.env = (false, eval (.Call (.Attribute a "values" apos) [] [] cpos) X.env) :: starEach [] X.env) :
    PE X (.Call (.Name "list" p0) [.Call (.Attribute a "values" apos) [] [] cpos] [] pos) (tDVl ta) := by
  refine ⟨fun pins s σ H Q I h => ?_⟩
  refine Call_ (ld_blt I hg hm boot_list (PyProof.Rows.callWith_type1 (PyProof.Rows.args_cons ?_ ne) ne rfl))
  refine wpAny_Call_method (T := "dict") (id := "dict.values") hbase rfl hline F.plainAttrs_dict F.slot_dict_values F.type_dict_values (thn (ha.run pins s σ H _ I h) fun u s1 ⟨x, H1, I1, rx, d, kvs, ex, hd, q⟩ => ?_)
  subst ex
  obtain rfl : u = Value.ref d := rx
  obtain ⟨zl, hs, vs, rel, dd⟩ := dk_rd I1.hok hd
  obtain ⟨ep, hat⟩ := dd.dictAt
  have hl : kvs.length = vs.length := rel.length
  refine ⟨hat.dictOf.typeIs, hat.dictOf.mapOf.noDict, ?_⟩
  have I2 : Inv X pins σ H1 { s1 with heap := s1.heap.push { cls := .type "dict_values", data := .fields #[.ref d] } } := I1.kept (t' := s1.toks) fun b ob q => Heap.get?_push_of_some _ q
  show wpAny _ _ (callWith cpos (.builtin "dict.values") [.ref d] [] []) _ X.xe s1
  refine method_meetsIn F.slot_dict_values F.entry_dict_values rfl (PySem.evalArgs_none ⟨rfl, hat.dictOf.typeIs, F.args_dict_values_1 _, _, meets_dict_values (mixKind X.prog X.w) d hs, ⟨vs, hat.dictOf⟩, PyProof.Rows.args_nil ?_⟩)
  refine PySem.W.kdl_call (PySem.W.kdl_values (knd := mixKind X.prog X.w) (d := d) (r := s1.heap.objs.size) (kvs := vs) (ep := ep)) (I1.ok.hd hc) ⟨⟨_, Heap.get?_push_size _ rfl, rfl, rfl⟩, hat.push _⟩ (by rw [← hl]; exact zl) fun h' tk acc c hk e' hacc => ?_
  refine ⟨.ref _, upd H1 _ (.lst (kvs.map (·.2))), I2.laid hk (Nat.le_refl _) (show ObjOk X.prog X.w _ _ _ (.lst (kvs.map (·.2))) from ⟨by rw [List.length_map]; exact zl, acc.toList, c, vals_at ?_ fun j u eu => ?_, ?_⟩), rfl, q _ (I2.hok.fresh (Nat.le_refl _))⟩
  · rw [Array.length_toList, hacc.1, List.length_map, hl]
  · obtain ⟨k, e⟩ := hacc.2 j u (by rw [← Array.getElem?_toList]; exact eu)
    exact kv_vals rel e
  · rw [Array.toArray_toList]; exact e'
theorem FzKV.vals {K : PySem.W.Frag} {p : Ph} : ∀ {ds : List (D × D)} {vs : List (Key × V)}, FzKV K p ds vs → FzL K p (ds.map (·.2)) (vs.map (·.2))
  | [], vs, h => by rw [show vs = [] from h]; rfl
  | (k, d) :: r, vs, h => by
    obtain ⟨q, v, ws, rfl, _, z, t⟩ := h
    exact ⟨v, _, rfl, z, FzKV.vals t⟩
theorem pv_dvals {p0 : Pos} (hc : X.calm = true) (hg : Gl X "list") (hm : X.mg "list" = none) (ha : PE X a (tE X.K N z ea)) (hbase : attributeBase a "values" X.env (eval a X.env) = eval a X.env := by rfl) (hline : (apos.endLine == cpos.line) = true := by rfl)
    (ne : starEach [.Call (.Attribute a "values" apos) [] [] cpos] X.env = (false, eval (.Call (.Attribute a "values" apos) [] [] cpos) X.env) :: starEach [] X.env := by rfl) :
    PE X (.Call (.Name "list" p0) [.Call (.Attribute a "values" apos) [] [] cpos] [] pos) (tE X.K N z (.dvals ea)) := by
  refine peImp (pe_dvl hc hg hm ha hbase hline ne) fun σ H Q h => ?_
  obtain ⟨p, env, μ, Po, rfl, sr, hw, post⟩ := h
  refine ⟨p, env, μ, _, rfl, sr, hw, fun ka x env1 μ1 p1 v h1 sr1 st1 vr1 => ?_⟩
  obtain ⟨kvs, rfl, h1⟩ := h1
  obtain ⟨b, ps, rfl, rd, fl⟩ := vr1.an sr1
  refine ⟨b, ps, rfl, rd, fun c hc => ?_⟩
  have n := new_lst (K := X.K) hc fl.vals
  exact post .fresh _ env1 μ1 _ _ h1 (sr1.ext n.1) (st1.trans n.1.step) (n.2.vr st1)
/-! ### isinstance -/
theorem tyX_of {K : PySem.W.Frag} {p : Ph} : ∀ {d : D} {v : V} {u : String}, An K p d v → tyOf d = some u → TyX K p.H v (.type u)
  | .non, v, u, h, e => by cases e; rw [show v = .non from h]; exact .base .non
  | .bl b, v, u, h, e => by cases e; rw [show v = .bl b from h]; exact .base (.bl b)
  | .int i, v, u, h, e => by cases e; rw [show v = .int i from h]; exact .base (.int i)
  | .str s, v, u, h, e => by cases e; rw [show v = .str _ from h]; exact .base (.str _)
  | .tup l, v, u, h, e => by
    cases e
    obtain ⟨a, vs, rfl, z, f⟩ := h
    rcases z with ⟨o, its, n, lk, cl, _⟩ | ⟨_, r | ⟨o, r⟩⟩
    · exact .kTuple lk cl
    · exact .base (.tup r)
    · exact .fTuple r
  | .lst l, v, u, h, e => by
    cases e
    obtain ⟨a, vs, rfl, r | ⟨o, r⟩, f⟩ := h
    · exact .base (.lst r)
    · exact .base (.frz r)
  | .dic l, v, u, h, e => by
    cases e
    obtain ⟨a, vs, rfl, r | ⟨o, r⟩, f⟩ := h
    · exact .base (.dK r)
    · exact .fDict r
  | .ref _, _, _, _, e => nomatch e
  | .fn _, _, _, _, e => nomatch e
  | .rep _, _, _, _, e => nomatch e
end
end Pv

set_option autoImplicit false
set_option linter.all false
set_option Elab.async false
set_option maxRecDepth 100000
namespace Pv
open PySem PySem.Spec PyProof.Rows L2
/-! ### range(i, j) of any size -/
theorem turn_long {P : Program} {w : World} {K : PySem.W.Frag} {tg : Expr} (it : Addr) (lo : Int) (n : Nat) : Turn P w K tg (Itr lo n) [it] it (fun i h => IsLongIter h it (lo + (i : Nat) * 1) ((n : Int) - (i : Nat)) 1) where
  mem := by simp
  obj := fun i h st b hb => by
    have e : b = it := by simpa using hb
    subst e
    exact ⟨_, st, fun v z => by
      have z' : Data.fields _ = Data.cell v := z
      cases z'⟩
  keep := fun i h h' st k => k it (by simp) _ st
  item := by
    intro X hP hw hK hc i pins s σ H E I hf st hg
    subst hP hw hK
    obtain ⟨f0, f1, f2, f3, f4, f5⟩ := hf it (by simp)
    have W := Walks.longrange (prog := X.prog) (w := X.w) (I.ok.hd hc) it lo 1 n
    refine W.item i s _ _ hg st fun v h' tk hv st' kk => ?_
    obtain ⟨t, rfl⟩ := hv
    have I1 : Inv X pins σ H { s with heap := h', toks := tk } := I.turned (fun b o hb e => kk b o (by simpa using hb) e) f0 f1 f3 f4 f5
    refine ⟨_, rfl, go_of (s := { s with heap := h', toks := tk }) (n := "longrange_iterator") st' rfl rfl (by decide) ⟨.int (lo + i), H, I1, ⟨t, ?_⟩, ⟨rfl, rfl⟩, st', fun b hb => (hf b hb).1⟩⟩
    rw [Int.mul_one]
  done := by
    intro X hP hw hK hc i pins s σ H E I hf st hg
    subst hP hw hK
    obtain ⟨f0, f1, f2, f3, f4, f5⟩ := hf it (by simp)
    exact wpAny_pyNext_long_end (I.ok.hd hc) st (by have : n ≤ i := hg; omega) fun h' eb => ⟨rfl, I.turned (t' := s.toks) (fun b o hb e => eb b o hb e) f0 f1 f3 f4 f5⟩
  self := fun _ _ _ _ _ st h => wpAny_pyIter_longiter st h
section
variable {X : Cx} {N : Hp} {z : Ev} {pos : Pos} {tg : Expr} {ea eb : E}
theorem range_itA {pins : List (Addr × PySem.Obj)} {σ : L2.St} {H : Hp} {s : Shared} {R : It → Hp → Prop} {E : Value → Shared → Prop} {lo hi : Int} {t u v : Tok} {tk : Nat} (I : Inv X pins σ H s)
    (q : R (Itr lo (hi - lo).toNat) H) : wpAny (model X.prog X.w) X.A (pyIter (.ref s.heap.objs.size)) (PIE X pins σ tg R) E { s with heap := s.heap.push { cls := .type "range", data := .fields #[.int lo t, .int hi u, .int 1 v] }, toks := tk } := by
  have I1 : Inv X pins σ H { s with heap := s.heap.push { cls := .type "range", data := .fields #[.int lo t, .int hi u, .int 1 v] }, toks := tk } := I.kept fun b o e => Heap.get?_push_of_some _ e
  have e1 : lo + ((0 : Nat) : Int) * 1 = lo := by simp
  have e2 : (((hi - lo).toNat : Nat) : Int) - ((0 : Nat) : Int) = Builtin.Range.rangeSize lo hi 1 := by rw [rangeSize_one]; split <;> omega
  have fp : ∀ b ∈ [(s.heap.push { cls := .type "range", data := .fields #[.int lo t, .int hi u, .int 1 v] }).objs.size], FpOk X pins H b := fun b hb => by
    have e : b = (s.heap.push { cls := .type "range", data := .fields #[.int lo t, .int hi u, .int 1 v] }).objs.size := by simpa using hb
    subst e
    exact I1.fpOk (Nat.le_refl _) (I1.hok.fresh (Nat.le_refl _))
  cases hs : Builtin.Range.small lo hi 1 with
  | true =>
    refine wpAny_pyIter_range (IsRange.new ..) hs ?_
    refine ⟨(s.heap.push { cls := .type "range", data := .fields #[.int lo t, .int hi u, .int 1 v] }).objs.size, [(s.heap.push { cls := .type "range", data := .fields #[.int lo t, .int hi u, .int 1 v] }).objs.size], _, _, H, rfl,
      I1.kept (t' := tk) fun b o e => Heap.get?_push_of_some _ e, turn_range _ lo (hi - lo).toNat, ?_, fp, q⟩
    show IsRangeIter _ _ (lo + ((0 : Nat) : Int) * 1) ((((hi - lo).toNat : Nat) : Int) - ((0 : Nat) : Int)) 1
    rw [e1, e2]
    exact Heap.get?_push_size _ rfl
  | false =>
    refine wpAny_pyIter_longrange (IsRange.new ..) hs ?_
    refine ⟨(s.heap.push { cls := .type "range", data := .fields #[.int lo t, .int hi u, .int 1 v] }).objs.size, [(s.heap.push { cls := .type "range", data := .fields #[.int lo t, .int hi u, .int 1 v] }).objs.size], _, _, H, rfl,
      I1.kept (t' := tk) fun b o e => Heap.get?_push_of_some _ e, turn_long _ lo (hi - lo).toNat, ?_, fp, q⟩
    show IsLongIter _ _ (lo + ((0 : Nat) : Int) * 1) ((((hi - lo).toNat : Nat) : Int) - ((0 : Nat) : Int)) 1
    rw [e1, e2]
    exact Heap.get?_push_size _ rfl
def iRngA (ta : TA) : TI := fun σ H R => ta σ H fun vs H1 => ∃ i j : Int, vs = [.int i, .int j] ∧ R (Itr i (j - i).toNat) H1
theorem pi_rangeA {a b : Expr} {ta : TA} {p : Pos} (hg : Gl X "range") (hm : X.mg "range" = none) (ha : PA X [a, b] ta) (hs : starEach [a, b] X.env = [(false, eval a X.env), (false, eval b X.env)]) (hs2 : starEach [b] X.env = [(false, eval b X.env)]) :
    PI X tg (.Call (.Name "range" p) [a, b] [] pos) (iRngA ta) := by
  refine ⟨fun pins s σ H R I h => ?_⟩
  refine Call_ (ld_blt I hg hm PyProof.Rows.boot_range (PyProof.Rows.callWith_type1 (thn (ha.run pos pins s σ H _ I h) fun us s1 ⟨vs, H1, I1, r1, q1⟩ => ?_) (by rw [hs, hs2]) (by rw [hs2]; rfl)))
  obtain ⟨i, j, e, q⟩ := q1
  subst e
  cases r1 with
  | cons r rr =>
    cases rr with
    | cons r' rr =>
      cases rr
      obtain ⟨t, rfl⟩ := r
      obtain ⟨t', rfl⟩ := r'
      exact call_range_2 (range_itA I1 q)
theorem pvi_rngL {a b : Expr} {q : Pos} (hg : Gl X "range") (hm : X.mg "range" = none) (ha : PE X a (tE X.K N z ea)) (hb : PE X b (tE X.K N z eb)) (hs : starEach [a, b] X.env = [(false, eval a X.env), (false, eval b X.env)] := by rfl) (hs2 : starEach [b] X.env = [(false, eval b X.env)] := by rfl) :
    PI X tg (.Call (.Name "range" q) [a, b] [] pos) (tI X.K N z (.rngL ea eb)) := by
  refine piImp (pi_rangeA hg hm (pa_cons ha (pa_cons hb pa_nil hs2) (by rw [hs, hs2])) hs hs2) fun σ H R h => ?_
  obtain ⟨p, env, μ, Po, rfl, sr, hw, post⟩ := h
  refine ⟨p, env, μ, _, rfl, sr, hw, fun k x env1 μ1 p1 v h1 sr1 st1 vr1 => ⟨p1, env1, μ1, _, rfl, sr1, h1, fun k' y env2 μ2 p2 w h2 sr2 st2 vr2 => ?_⟩⟩
  obtain ⟨i, j, ⟨rfl, rfl⟩, h2⟩ := h2
  obtain rfl : v = .int i := vr1.an sr1
  obtain rfl : w = .int j := vr2.an sr2
  exact ⟨_, _, rfl, post _ env2 μ2 p2 _ h2 sr2 (st1.trans st2) wk_range⟩
end
def relabS (scope scF : Scope) : Scope := { scope with names := scope.names.map fun (n, k) => if (k == .free && scF.kind == .function && scF.names.lookup n == some .cell) then (n, .cell) else (n, k) }
theorem blk_in {X : Cx} {s : Shared} {H : Hp} {scO sc scF : Scope} {C : Addr} {cl : List (Str × Addr)} {fp : List Addr} {N : List Str} {own : List (Str × Nat)} (hs : X.env.scope = scF) (h : BlkOk N (relabS scO scF) sc own) :
    BlkOk N (X.blk s H scO (compEnvC scO cl C X.env) fp).env.scope sc own := by subst hs; exact h
end Pv

set_option autoImplicit false
set_option linter.all false
set_option Elab.async false
set_option maxRecDepth 100000
namespace Pv
open PySem PySem.Spec PyProof.Rows L2
section
variable {X : Cx} {N : Hp} {z : Ev} {pos : Pos} {a b k : Expr} {ea eb ek ed : E}
/-! ### isinstance of one built-in class -/
def tyNames : List String := ["NoneType", "bool", "int", "str", "tuple", "list", "dict"]
theorem tyOf_in {d : D} {u : String} (h : tyOf d = some u) : u ∈ tyNames := by
  cases d <;> first | (cases h; decide) | exact nomatch h
theorem pv_isi {T : String} {x : Str} {q q2 : Pos} (hg : Gl X "isinstance") (hm : X.mg "isinstance" = none) (hg2 : Gl X x) (hm2 : X.mg x = none) (hv : bootBuiltins x = some (.type T)) (ha : PE X a (tE X.K N z ea))
    (hk : ∀ u ∈ tyNames, kitB u T = some (isTy u T) := by decide +kernel) (hb : bootBuiltins "isinstance" = some (.builtin "isinstance") := by decide +kernel) (hn : x ≠ "__name__" := by decide) (hd : (x == ("__debug__" : Str)) = false := by decide)
    (hs : starEach [a, .Name x q2] X.env = (false, eval a X.env) :: starEach [.Name x q2] X.env := by rfl)
    (hs2 : starEach [.Name x q2] X.env = (false, eval (.Name x q2) X.env) :: starEach [] X.env := by rfl)
    (hpl : (backTo pos (starEach [.Name x q2] X.env)).any (·.1) = false := by rfl) :
    PE X (.Call (.Name "isinstance" q) [a, .Name x q2] [] pos) (tE X.K N z (.isInst ea [T])) := by
  refine peImp (pe_callB call_isi hg hm hb (pa_cons ha (pa_cons (pe_bltn (v := .ty T) hg2 hm2 hv rfl hn hd) pa_nil hs2) hs) (he := hs) (hpl := hpl)) fun σ H Q h => ?_
  obtain ⟨p, env, μ, Po, rfl, sr, hw, post⟩ := h
  refine ⟨p, env, μ, _, rfl, sr, hw, fun ka x1 env1 μ1 p1 v h1 sr1 st1 vr1 => ?_⟩
  obtain ⟨u, hu, h1⟩ := h1
  refine ⟨v, .ty T, .type u, .type T, _, rfl, .ty T, tyX_of (vr1.an sr1) hu, kit_ty (hk u (tyOf_in hu)), ?_⟩
  refine post .fz _ env1 μ1 p1 _ h1 sr1 st1 ?_
  show V.bl _ = V.bl _
  simp
/-! ### math.gcd -/
theorem pv_gcd {x : Str} {q : Pos} (hg : Gl X x) (hm : X.mg x = some (.builtin "math.gcd")) (ha : PE X a (tE X.K N z ea)) (hb : PE X b (tE X.K N z eb)) (hdb : (x == ("__debug__" : Str)) = false := by decide)
    (hs : starEach [a, b] X.env = (false, eval a X.env) :: starEach [b] X.env := by rfl) (hs2 : starEach [b] X.env = (false, eval b X.env) :: starEach [] X.env := by rfl)
    (hpl : (backTo pos (starEach [b] X.env)).any (·.1) = false := by rfl) : PE X (.Call (.Name x q) [a, b] [] pos) (tE X.K N z (.gcd ea eb)) := by
  refine peImp (pe_callBfun cr_gcd hg hm (pa_cons ha (pa_cons hb pa_nil hs2) hs) hdb hs hpl) fun σ H Q h => ?_
  obtain ⟨p, env, μ, Po, rfl, sr, hw, post⟩ := h
  refine ⟨p, env, μ, _, rfl, sr, hw, fun ka x1 env1 μ1 p1 v h1 sr1 st1 vr1 => ⟨p1, env1, μ1, _, rfl, sr1, h1, fun kb y env2 μ2 p2 w h2 sr2 st2 vr2 => ?_⟩⟩
  obtain ⟨i, j, ⟨rfl, rfl⟩, h2⟩ := h2
  obtain rfl : v = .int i := vr1.an sr1
  obtain rfl : w = .int j := vr2.an sr2
  exact ⟨i, j, rfl, post .fz _ env2 μ2 p2 _ h2 sr2 (st1.trans st2) rfl⟩
/-! ### dicts of the module -/
/-- a dict of the module with text keys -/
structure GDt (K : PySem.W.Frag) (w : World) (mg : Str → Option Value) (G : String → Option D) (x : Str) (n : String) (kvs : List (D × D)) : Prop where
  hm : mg x = some (.ref (He.ga K x))
  hG : G n = some (.dic kvs)
  dic : ∃ es m, KDict K w (He.ga K x) es m
  val : ∀ s : List Nat, ∃ r : Option Value, PySem.W.nsIn K (He.ga K x) (toStr s) = some r ∧ (match dget kvs (.str s) with
    | none => r = none
    | some d => ∃ u v, r = some u ∧ RelV v u ∧ ∀ p, Fz K p d v)
def tKGet1 (K : PySem.W.Frag) (c : Addr) (ty : TE) : TE := fun σ H Q => ty σ H fun y H2 => ∃ s r v, y = .str s ∧ PySem.W.nsIn K c s = some r ∧ RelV v (r.getD .none) ∧ Q v H2
def tKGet2 (K : PySem.W.Frag) (c : Addr) (ty tx : TE) : TE := fun σ H Q => ty σ H fun y H2 => tx σ H2 fun x H3 => ∃ s r v, y = .str s ∧ PySem.W.nsIn K c s = some r ∧ (match r with
  | none => v = x
  | some u => RelV v u) ∧ Q v H3
theorem pe_kget1 {o : Expr} {apos cpos : Pos} {c : Addr} {es : Array DictEntry} {n : Nat} {ty : TE} (Dk : KDict X.K X.w c es n) (ho : PE X o (L2.tC (V.ref c))) (he : PE X k ty) (m : M1 X o "get" apos k cpos) : PE X (.Call (.Attribute o "get" apos) [k] [] cpos) (tKGet1 X.K c ty) := by
  refine ⟨fun pins s σ H Q I h => ?_⟩
  refine wpAny_Call_method m.base m.few m.line PySem.F.plainAttrs_dict PySem.F.slot_dict_get PySem.F.type_dict_get (thn (ho.run pins s σ H (fun x H1 => x = .ref c ∧ H1 = H) I ⟨rfl, rfl⟩) fun u s1 ⟨x, H1, I1, rx, ex, eh⟩ => ?_)
  subst ex eh
  obtain rfl : u = Value.ref c := rx
  have M1 := PySem.W.mapOf_K (prog := X.prog) I1.kIn Dk.at_ Dk.lit
  refine ⟨M1.typeIs, M1.noDict, ?_⟩
  rw [m.trees]
  refine Calls.callWith_builtin rfl (Calls.evalArgs_plain (Calls.spliced_cons (thn (he.run pins s1 σ _ _ I1 h) fun iv s2 ⟨y, H2, I2, ry, q2⟩ => Calls.spliced_nil ?_)))
  obtain ⟨t, r, v, rfl, e, rv, q⟩ := q2
  obtain ⟨tk, rfl⟩ := ry
  have M2 := PySem.W.mapOf_K (prog := X.prog) I2.kIn Dk.at_ Dk.lit
  refine call_meetsIn PySem.F.slot_dict_get M2.typeIs PySem.F.entry_dict_get (PySem.F.args_dict_get_2 _ _) (meets_dict_get (strKind X.prog X.w) c (PySem.strKind_is X.prog X.w t tk) Dk.low) ⟨_, M2, ?_⟩
  rw [PySem.W.find_K Dk.at_ e]
  exact ⟨v, H2, I2.tok _, rv, q⟩
theorem pe_kget2 {o f : Expr} {apos cpos : Pos} {c : Addr} {es : Array DictEntry} {n : Nat} {ty tx : TE} (Dk : KDict X.K X.w c es n) (ho : PE X o (L2.tC (V.ref c))) (he : PE X k ty) (hf : PE X f tx) (m : M2 X o "get" apos k f cpos) : PE X (.Call (.Attribute o "get" apos) [k, f] [] cpos) (tKGet2 X.K c ty tx) := by
  refine ⟨fun pins s σ H Q I h => ?_⟩
  refine wpAny_Call_method m.base m.few m.line PySem.F.plainAttrs_dict PySem.F.slot_dict_get PySem.F.type_dict_get (thn (ho.run pins s σ H (fun x H1 => x = .ref c ∧ H1 = H) I ⟨rfl, rfl⟩) fun u s1 ⟨x, H1, I1, rx, ex, eh⟩ => ?_)
  subst ex eh
  obtain rfl : u = Value.ref c := rx
  have M1 := PySem.W.mapOf_K (prog := X.prog) I1.kIn Dk.at_ Dk.lit
  refine ⟨M1.typeIs, M1.noDict, ?_⟩
  rw [m.trees]
  refine Calls.callWith_builtin rfl (Calls.evalArgs_plain (Calls.spliced_cons (thn (he.run pins s1 σ _ _ I1 h) fun iv s2 ⟨y, H2, I2, ry, q2⟩ =>
    Calls.spliced_cons (thn (hf.run pins s2 σ H2 _ I2 q2) fun fv s3 ⟨w, H3, I3, rw', q3⟩ => Calls.spliced_nil ?_))))
  obtain ⟨t, r, v, rfl, e, rv, q⟩ := q3
  obtain ⟨tk, rfl⟩ := ry
  have M3 := PySem.W.mapOf_K (prog := X.prog) I3.kIn Dk.at_ Dk.lit
  refine call_meetsIn PySem.F.slot_dict_get M3.typeIs PySem.F.entry_dict_get (PySem.F.args_dict_get_3 _ _ _) (meets_dict_get_default (strKind X.prog X.w) c (PySem.strKind_is X.prog X.w t tk) Dk.low fv) ⟨_, M3, ?_⟩
  rw [PySem.W.find_K Dk.at_ e]
  refine ⟨v, H3, I3.tok _, ?_, q⟩
  cases r with
  | none => exact (show v = w from rv) ▸ rw'
  | some u => exact rv
variable {x : Str} {n : String} {kvs : List (D × D)}
theorem pv_gget {q apos cpos : Pos} (g : GDt X.K X.w X.mg z.G x n kvs) (hg : Gl X x) (hk : PE X k (tE X.K N z ek)) (m : M1 X (.Name x q) "get" apos k cpos) (hd : (x == ("__debug__" : Str)) = false := by decide) :
    PE X (.Call (.Attribute (.Name x q) "get" apos) [k] [] cpos) (tE X.K N z (.gget n ek)) := by
  obtain ⟨es, l, Dk⟩ := g.dic
  refine peImp (pe_kget1 Dk (pe_glob (v := V.ref (He.ga X.K x)) hg g.hm rfl hd) hk m) fun σ H Q h => ?_
  obtain ⟨p, env, μ, Po, rfl, sr, hw, post⟩ := h
  refine ⟨p, env, μ, _, rfl, sr, hw, fun ka y env1 μ1 p1 v h1 sr1 st1 vr1 => ?_⟩
  obtain ⟨kvs', s, e, rfl, h1⟩ := h1
  rw [g.hG] at e; cases e
  obtain rfl : v = .str (toStr s) := vr1.an sr1
  obtain ⟨r, er, hr⟩ := g.val s
  cases hd : dget kvs (.str s) with
  | none =>
    rw [hd] at hr h1
    obtain rfl : r = none := hr
    exact ⟨toStr s, none, .non, rfl, er, rfl, post .fz _ env1 μ1 p1 _ h1 sr1 st1 rfl⟩
  | some d =>
    rw [hd] at hr h1
    obtain ⟨u, w, rfl, rw', fz⟩ := hr
    exact ⟨toStr s, some u, w, rfl, er, rw', post .fz _ env1 μ1 p1 _ h1 sr1 st1 (fz p1)⟩
theorem pv_gget2 {f : Expr} {q apos cpos : Pos} (g : GDt X.K X.w X.mg z.G x n kvs) (hg : Gl X x) (hk : PE X k (tE X.K N z ek)) (hf : PE X f (tE X.K N z ed)) (m : M2 X (.Name x q) "get" apos k f cpos) (hd : (x == ("__debug__" : Str)) = false := by decide) :
    PE X (.Call (.Attribute (.Name x q) "get" apos) [k, f] [] cpos) (tE X.K N z (.gget2 n ek ed)) := by
  obtain ⟨es, l, Dk⟩ := g.dic
  refine peImp (pe_kget2 Dk (pe_glob (v := V.ref (He.ga X.K x)) hg g.hm rfl hd) hk hf m) fun σ H Q h => ?_
  obtain ⟨p, env, μ, Po, rfl, sr, hw, post⟩ := h
  refine ⟨p, env, μ, _, rfl, sr, hw, fun ka y env1 μ1 p1 v h1 sr1 st1 vr1 => ⟨p1, env1, μ1, _, rfl, sr1, h1, fun kd y2 env2 μ2 p2 v2 h2 sr2 st2 vr2 => ?_⟩⟩
  obtain ⟨env3, p3, h3, hh, lo, sr3, st3, fz3⟩ := esc_ok sr2 st2 vr2 h2
  obtain ⟨kvs', s, e, rfl, h3⟩ := h3
  rw [g.hG] at e; cases e
  obtain rfl : v = .str (toStr s) := vr1.an sr1
  obtain ⟨r, er, hr⟩ := g.val s
  rw [← hh]
  cases hd : dget kvs (.str s) with
  | none =>
    rw [hd] at hr h3
    obtain rfl : r = none := hr
    exact ⟨toStr s, none, v2, rfl, er, rfl, post .fz _ env3 μ2 p3 _ h3 sr3 (st1.trans st3) fz3⟩
  | some d =>
    rw [hd] at hr h3
    obtain ⟨u, w, rfl, rw', fz⟩ := hr
    exact ⟨toStr s, some u, w, rfl, er, rw', post .fz _ env3 μ2 p3 _ h3 sr3 (st1.trans st3) (fz p3)⟩
theorem pv_gidx {q : Pos} (g : GDt X.K X.w X.mg z.G x n kvs) (hg : Gl X x) (hk : PE X k (tE X.K N z ek)) (hs : PlainIx k) (hd : (x == ("__debug__" : Str)) = false := by decide) :
    PE X (.Subscript (.Name x q) k pos) (tE X.K N z (.gidx n ek)) := by
  obtain ⟨es, l, Dk⟩ := g.dic
  refine peImp (pe_ix ix_kdict (pe_glob (v := V.ref (He.ga X.K x)) hg g.hm rfl hd) hk hs) fun σ H Q h => ?_
  obtain ⟨p, env, μ, Po, rfl, sr, hw, post⟩ := h
  refine ⟨p, env, μ, _, rfl, sr, hw, fun ka y env1 μ1 p1 v h1 sr1 st1 vr1 => ?_⟩
  obtain ⟨kvs', s, d, e, rfl, ed, h1⟩ := h1
  rw [g.hG] at e; cases e
  obtain rfl : v = .str (toStr s) := vr1.an sr1
  obtain ⟨r, er, hr⟩ := g.val s
  rw [ed] at hr
  obtain ⟨u, w, rfl, rw', fz⟩ := hr
  exact ⟨_, toStr s, w, rfl, rfl, ⟨es, l, u, Dk.at_, Dk.lit, er, rw'⟩, post .fz _ env1 μ1 p1 _ h1 sr1 st1 (fz p1)⟩
theorem gd_some {K : PySem.W.Frag} {w : World} {mg : Str → Option Value} {G : String → Option D} (g : GDt K w mg G x n kvs) (s : List Nat) : ∃ r, PySem.W.nsIn K (He.ga K x) (toStr s) = some r ∧ r.isSome = (dget kvs (.str s)).isSome := by
  obtain ⟨r, er, hr⟩ := g.val s
  refine ⟨r, er, ?_⟩
  cases hd : dget kvs (.str s) with
  | none => rw [hd] at hr; rw [show r = none from hr]; rfl
  | some d => rw [hd] at hr; obtain ⟨u, w, rfl, _⟩ := hr; rfl
theorem pv_gmem {q : Pos} (g : GDt X.K X.w X.mg z.G x n kvs) (hg : Gl X x) (hk : PE X k (tE X.K N z ek)) (hd : (x == ("__debug__" : Str)) = false := by decide) (hm : behindInMarks .In (.Name x q) = false := by rfl) :
    PE X (.Compare k [.In] [.Name x q] pos) (tE X.K N z (.gmem false n ek)) := by
  obtain ⟨es, l, Dk⟩ := g.dic
  refine peImp (pe_cmpR (op_in_kd Dk) hk (pe_glob (v := V.ref (He.ga X.K x)) hg g.hm rfl hd) hm) fun σ H Q h => ?_
  obtain ⟨p, env, μ, Po, rfl, sr, hw, post⟩ := h
  refine ⟨p, env, μ, _, rfl, sr, hw, fun ka y env1 μ1 p1 v h1 sr1 st1 vr1 => ?_⟩
  obtain ⟨kvs', s, e, rfl, h1⟩ := h1
  rw [g.hG] at e; cases e
  obtain rfl : v = .str (toStr s) := vr1.an sr1
  obtain ⟨r, er, hr⟩ := gd_some g s
  refine ⟨toStr s, r, rfl, rfl, er, ?_⟩
  rw [hr]
  exact post .fz _ env1 μ1 p1 _ h1 sr1 st1 (by show V.bl _ = V.bl _; rw [Bool.false_xor])
theorem pv_gnmem {q : Pos} (g : GDt X.K X.w X.mg z.G x n kvs) (hg : Gl X x) (hk : PE X k (tE X.K N z ek)) (hd : (x == ("__debug__" : Str)) = false := by decide) (hm : behindInMarks .NotIn (.Name x q) = false := by rfl) :
    PE X (.Compare k [.NotIn] [.Name x q] pos) (tE X.K N z (.gmem true n ek)) := by
  obtain ⟨es, l, Dk⟩ := g.dic
  refine peImp (pe_cmpR (op_notIn_kd Dk) hk (pe_glob (v := V.ref (He.ga X.K x)) hg g.hm rfl hd) hm) fun σ H Q h => ?_
  obtain ⟨p, env, μ, Po, rfl, sr, hw, post⟩ := h
  refine ⟨p, env, μ, _, rfl, sr, hw, fun ka y env1 μ1 p1 v h1 sr1 st1 vr1 => ?_⟩
  obtain ⟨kvs', s, e, rfl, h1⟩ := h1
  rw [g.hG] at e; cases e
  obtain rfl : v = .str (toStr s) := vr1.an sr1
  obtain ⟨r, er, hr⟩ := gd_some g s
  refine ⟨toStr s, r, rfl, rfl, er, ?_⟩
  rw [hr]
  exact post .fz _ env1 μ1 p1 _ h1 sr1 st1 (by show V.bl _ = V.bl _; rw [Bool.true_xor])
theorem pvt_gmem {q : Pos} (g : GDt X.K X.w X.mg z.G x n kvs) (hg : Gl X x) (hk : PE X k (tE X.K N z ek)) (hd : (x == ("__debug__" : Str)) = false := by decide) (hm : behindInMarks .In (.Name x q) = false := by rfl) :
    PT X (.Compare k [.In] [.Name x q] pos) (tT X.K N z (.gmem false n ek)) := by
  obtain ⟨es, l, Dk⟩ := g.dic
  refine ptImp (pt_cmpR (op_in_kd Dk) hk (pe_glob (v := V.ref (He.ga X.K x)) hg g.hm rfl hd) hm) fun σ H Q h => ?_
  obtain ⟨p, env, μ, Po, rfl, sr, hw, post⟩ := h
  refine ⟨p, env, μ, _, rfl, sr, hw, fun ka y env1 μ1 p1 v h1 sr1 st1 vr1 => ?_⟩
  obtain ⟨kvs', s, e, rfl, h1⟩ := h1
  rw [g.hG] at e; cases e
  obtain rfl : v = .str (toStr s) := vr1.an sr1
  obtain ⟨r, er, hr⟩ := gd_some g s
  refine ⟨toStr s, r, rfl, rfl, er, _, rfl, ?_⟩
  rw [hr]
  have h2 := post .fz _ env1 μ1 p1 h1 sr1 st1
  rw [Bool.false_xor] at h2
  exact h2
theorem pvt_gnmem {q : Pos} (g : GDt X.K X.w X.mg z.G x n kvs) (hg : Gl X x) (hk : PE X k (tE X.K N z ek)) (hd : (x == ("__debug__" : Str)) = false := by decide) (hm : behindInMarks .NotIn (.Name x q) = false := by rfl) :
    PT X (.Compare k [.NotIn] [.Name x q] pos) (tT X.K N z (.gmem true n ek)) := by
  obtain ⟨es, l, Dk⟩ := g.dic
  refine ptImp (pt_cmpR (op_notIn_kd Dk) hk (pe_glob (v := V.ref (He.ga X.K x)) hg g.hm rfl hd) hm) fun σ H Q h => ?_
  obtain ⟨p, env, μ, Po, rfl, sr, hw, post⟩ := h
  refine ⟨p, env, μ, _, rfl, sr, hw, fun ka y env1 μ1 p1 v h1 sr1 st1 vr1 => ?_⟩
  obtain ⟨kvs', s, e, rfl, h1⟩ := h1
  rw [g.hG] at e; cases e
  obtain rfl : v = .str (toStr s) := vr1.an sr1
  obtain ⟨r, er, hr⟩ := gd_some g s
  refine ⟨toStr s, r, rfl, rfl, er, _, rfl, ?_⟩
  rw [hr]
  have h2 := post .fz _ env1 μ1 p1 h1 sr1 st1
  rw [Bool.true_xor] at h2
  exact h2
end
/-! ### what the top wrote -/
open He in
def dvD : Dv → D
  | .int i => .int i
  | .str s => .str s.cps.toList
  | _ => .non
def dvOk : He.Dv → Bool
  | .int _ => true
  | .str _ => true
  | _ => false
abbrev tabD (kvs : List (Str × He.Dv)) : List (D × D) := kvs.map fun q => (D.str q.1.cps.toList, dvD q.2)
theorem toStr_cps (x : Str) : toStr x.cps.toList = x := by
  cases x; simp [toStr]
theorem dvD_fz {K : PySem.W.Frag} {p : Ph} : ∀ {v : He.Dv}, dvOk v = true → Fz K p (dvD v) (v.v K)
  | .int i, _ => rfl
  | .str s, _ => by show V.str s = V.str (toStr s.cps.toList); rw [toStr_cps]
  | .non, h => nomatch h
  | .bl _, h => nomatch h
  | .byt _, h => nomatch h
  | .flt _, h => nomatch h
  | .ty _, h => nomatch h
  | .glo _, h => nomatch h
  | .adr _, h => nomatch h
theorem dget_tab {s : List Nat} : ∀ {kvs : List (Str × He.Dv)}, (∀ q ∈ kvs, q.1 ≠ toStr s) → dget (tabD kvs) (.str s) = none
  | [], _ => rfl
  | q :: r, h => by
    have h1 : ¬ q.1.cps.toList = s := fun e => h q List.mem_cons_self (by rw [← e, toStr_cps])
    show (if (q.1.cps.toList == s) = true then _ else dget (tabD r) (.str s)) = none
    rw [if_neg (by simpa using h1)]
    exact dget_tab fun q hq => h q (List.mem_cons_of_mem _ hq)
theorem dget_tab2 {s : List Nat} : ∀ {kvs : List (Str × He.Dv)}, (∃ q ∈ kvs, q.1 = toStr s) → ∃ q ∈ kvs, q.1 = toStr s ∧ dget (tabD kvs) (.str s) = some (dvD q.2)
  | [], h => by obtain ⟨q, hq, _⟩ := h; cases hq
  | q :: r, h => by
    by_cases e : q.1.cps.toList = s
    · refine ⟨q, List.mem_cons_self, by rw [← e, toStr_cps], ?_⟩
      show (if (q.1.cps.toList == s) = true then _ else dget (tabD r) (.str s)) = _
      rw [if_pos (by simpa using e)]
    · obtain ⟨q', hq', e'⟩ := h
      have hr : q' ∈ r := by
        rcases List.mem_cons.mp hq' with rfl | hr
        · exact absurd (by rw [e']) e
        · exact hr
      obtain ⟨q2, h2, e2, e3⟩ := dget_tab2 (kvs := r) ⟨q', hr, e'⟩
      refine ⟨q2, List.mem_cons_of_mem _ h2, e2, ?_⟩
      show (if (q.1.cps.toList == s) = true then _ else dget (tabD r) (.str s)) = _
      rw [if_neg (by simpa using e)]
      exact e3
theorem ents_none {P : Params} {zs : Str} : ∀ {l : List DictEntry} {ks : List Str}, l.map He.keyOf = He.keysIn P ks → zs ∉ ks → l.find? (·.key.isStr zs) = none ∧ l.any (·.refKey) = false
  | [], _, _, _ => ⟨rfl, rfl⟩
  | e :: r, [], h, _ => by cases h
  | e :: r, k :: ks, h, hz => by
    have h1 : He.keyOf e :: r.map He.keyOf = some (k, PyData.keyHash P k) :: He.keysIn P ks := h
    injection h1 with h2 h3
    obtain ⟨a, b⟩ := ents_none (l := r) (ks := ks) h3 fun m => hz (List.mem_cons_of_mem _ m)
    unfold He.keyOf at h2
    split at h2
    · rename_i x t q
      have h4 := Option.some.inj h2
      obtain ⟨h5, h6⟩ := Prod.mk.inj h4
      have ne : ¬ x = zs := fun e => hz (by rw [← e, h5]; exact List.mem_cons_self)
      refine ⟨?_, ?_⟩
      · rw [List.find?_cons]
        have : e.key.isStr zs = false := by
          rw [q, PySem.W.isStr_of]
          show (x == zs) = false
          exact beq_eq_false_iff_ne.mpr ne
        rw [this]
        exact a
      · rw [List.any_cons, b]
        have : e.refKey = false := by unfold DictEntry.refKey; rw [q]
        rw [this]
        rfl
    · cases h2
theorem gdt_of {K : PySem.W.Frag} {w : World} {mg : Str → Option Value} {G : String → Option D} {x : Str} {n : String} {tab : List (Str × He.Dv)} (hm : mg x = some (.ref (He.ga K x))) (hG : G n = some (.dic (tabD tab)))
    (hd : He.dicW K (He.ga K x) = some (He.keysIn w.params (tab.map (·.1)))) (hv : He.valsB K (He.ga K x) tab = true) (ho : tab.all (fun q => dvOk q.2) = true) : GDt K w mg G x n (tabD tab) := by
  refine ⟨hm, hG, He.dicW_ok hd, fun s => ?_⟩
  by_cases hk : ∃ q ∈ tab, q.1 = toStr s
  · obtain ⟨q, hq, eq, ed⟩ := dget_tab2 hk
    obtain ⟨u, e1, e2⟩ := He.valsB_ok hv hq
    rw [eq] at e1
    refine ⟨_, e1, ?_⟩
    rw [ed]
    exact ⟨u, _, rfl, e2, fun p => dvD_fz (List.all_eq_true.mp ho q hq)⟩
  · have hk' : ∀ q ∈ tab, q.1 ≠ toStr s := fun q hq e => hk ⟨q, hq, e⟩
    refine ⟨none, ?_, by rw [dget_tab hk']⟩
    unfold He.dicW at hd
    cases q : K.lookup (He.ga K x) with
    | none => rw [q] at hd; cases hd
    | some o =>
      obtain ⟨oc, od, dt, osl⟩ := o
      rw [q] at hd
      cases oc with
      | type c =>
        cases od with
        | none =>
          cases dt with
          | dict es m =>
            have h1 : (match decide (c = "dict") && (osl.isEmpty && !((He.ga K x) == sysModules)) with
              | true => some (es.toList.map He.keyOf)
              | false => none) = some (He.keysIn w.params (tab.map (·.1))) := hd
            cases zz : decide (c = "dict") && (osl.isEmpty && !((He.ga K x) == sysModules)) with
            | false => rw [zz] at h1; cases h1
            | true =>
              rw [zz] at h1
              obtain ⟨a, b⟩ := ents_none (zs := toStr s) (Option.some.inj h1) fun hm => by
                obtain ⟨q, hq, e⟩ := List.mem_map.mp hm
                exact hk' q hq e
              unfold PySem.W.nsIn
              rw [q]
              dsimp only
              rw [a, b]
              rfl
          | _ => cases hd
        | some b => cases dt <;> cases hd
      | _ => cases od <;> cases dt <;> cases hd
def bfB (K : PySem.W.Frag) (x : Str) (id : String) : Bool := He.eqO (PySem.W.nsIn K mainGlobals x) (some (some (.builtin id)))
theorem bfB_ok {K : PySem.W.Frag} {h : Heap} {mg : Str → Option Value} {x : Str} {id : String} (X : K.In h) (G : h.Ns mainGlobals mg) (c : bfB K x id = true) : mg x = some (.builtin id) := PySem.W.mg_of X G (He.eqO_ok c)
theorem says_dicW {fa : List He.Fa} {fn : List He.DefD} {ts : List He.Tab} {w : World} {K : PySem.W.Frag} (c : He.SaysT fa fn ts w K) (i : Nat) {t : He.Tab} (h : ts[i]? = some t := by rfl) : He.dicW K (t.1 K) = some (He.keysIn w.params t.2) := by
  have e : ts.map (fun t => He.dicW K (t.1 K)) = ts.map fun t => some (He.keysIn w.params t.2) := congrArg (fun z : He.AlT => z.2) c
  have e2 : (ts.map fun t => He.dicW K (t.1 K))[i]? = (ts.map fun t => some (He.keysIn w.params t.2))[i]? := by rw [e]
  rw [List.getElem?_map, List.getElem?_map, h] at e2
  exact Option.some.inj e2
end Pv

set_option autoImplicit false
set_option linter.all false
set_option Elab.async false
set_option maxRecDepth 100000
namespace Pv
open PySem PySem.Spec PyProof.Rows L2
open Sem (wp)
section
variable {prog : Program} {w : World} {A : Around} {E : Value → Shared → Prop} {s : Shared}
theorem nextOf_range_item {it : Addr} {x left step : Int} {Q : Value → Shared → Prop} (hit : IsRangeIter s.heap it x left step) (hleft : 0 < left)
    (hQ : ∀ h', IsRangeIter h' it (x + step) (left - 1) step → Heap.SameBut it s.heap h' → Q (.int x s.toks) { s with heap := h', toks := s.toks + 1 }) :
    wpAny (model prog w) A (Builtin.SmallTypes.nextOf (.ref it)) Q E s := by
  have hT : s.TypeIs (.ref it) "range_iterator" := ⟨_, hit, rfl⟩
  unfold Builtin.SmallTypes.nextOf
  refine wpAny_bind (wpAny_callSpecial?_slot (name := Str.ofString "__next__") hT PySem.F.slot_range_iterator_next
    (call_meets PySem.F.slot_range_iterator_next hT PySem.F.entry_range_iterator_next (PySem.F.args_range_iterator_next_1 _) (AutoRange.range_iterator___next___range_iterator_1 it x left step (by omega)) ⟨hit, ?_⟩))
  exact wpAny_pure (hQ _ (Heap.get?_update_self _ (Heap.get?_update_self _ hit rfl) rfl) ((Heap.SameBut.update ..).trans (Heap.SameBut.update ..)))
theorem nextOf_range_end {it : Addr} {x left step : Int} {Q : Value → Shared → Prop} (hh : A.handled = none) (hit : IsRangeIter s.heap it x left step) (hleft : left ≤ 0)
    (hE : ∀ h' e, Heap.ExtBut it s.heap h' → (∃ o, h'.get? e = some o ∧ o.cls = .type "StopIteration") → E (.ref e) { s with heap := h' }) :
    wpAny (model prog w) A (Builtin.SmallTypes.nextOf (.ref it)) Q E s := by
  have hT : s.TypeIs (.ref it) "range_iterator" := ⟨_, hit, rfl⟩
  unfold Builtin.SmallTypes.nextOf
  refine wpAny_bind (wpAny_callSpecial?_slot (name := Str.ofString "__next__") hT PySem.F.slot_range_iterator_next
    (wpAny_call_entry PySem.F.slot_range_iterator_next hT PySem.F.entry_range_iterator_next ?_ (PySem.F.args_range_iterator_next_1 _)))
  show wpAny _ _ (field (.ref it) 0 >>= _) _ _ s
  refine wpAny_bind (wpAny_field hit rfl (x := rawInt x) rfl ?_)
  show wpAny _ _ (field (.ref it) 1 >>= _) _ _ s
  refine wpAny_bind (wpAny_field hit rfl (x := rawInt left) rfl ?_)
  show wpAny _ _ (field (.ref it) 2 >>= _) _ _ s
  refine wpAny_bind (wpAny_field hit rfl (x := rawInt step) rfl ?_)
  show wpAny _ _ (if left ≤ 0 then _ else _) _ _ s
  rw [if_pos hleft]
  refine wpAny_bind (wpAny_rule ?_)
  refine wpAny_bind ?_
  show wpAny _ _ (newExc (.type "StopIteration") [] >>= _) _ _ _
  refine wpAny_bind ?_
  simp only [newExc, newTuple]
  refine wpAny_bind (wpAny_newObj_type ?_ (by size_fits))
  refine wpAny_bind (m := firstArgMember _ _) (wpAny_of_eq (a := Value.none) (by first | rfl | (simp only [firstArgMember]; rfl)) ?_)
  refine wpAny_newObj_type ?_ (by size_fits)
  simp only [raiseNew]
  refine wpAny_bind (wpAny_handled ?_)
  first | rw [show A.in1.handled = none from hh] | rw [hh]
  refine wpAny_bind (wpAny_pure (wpAny_throw ?_))
  exact hE _ _ (((Heap.ExtBut.refl it s.heap).push _).push _) ⟨_, Heap.get?_push_size _ rfl, rfl⟩
end
theorem draws_range {prog : Program} {w : World} {A : Around} (hh : A.handled = none) (it : Addr) (a : Int) (n : Nat) :
    Draws prog w A it [it] n (fun i v => ∃ t, v = .int (a + i) t) (fun i h => IsRangeIter h it (a + i) ((n : Int) - i) 1) where
  live := fun _ _ st => ⟨_, st⟩
  frame := fun _ _ _ st hk => hk it (by simp) _ st
  item := fun i s Q E hi st hQ => by
    refine nextOf_range_item st (by omega) fun h' hit' hs' => ?_
    refine hQ _ h' (s.toks + 1) ⟨_, rfl⟩ ?_ hs'
    have e1 : a + ((i + 1 : Nat) : Int) = a + i + 1 := by omega
    have e2 : (n : Int) - ((i + 1 : Nat) : Int) = (n : Int) - i - 1 := by omega
    show IsRangeIter h' it (a + ((i + 1 : Nat) : Int)) ((n : Int) - ((i + 1 : Nat) : Int)) 1
    rw [e1, e2]
    exact hit'
  done := fun s Q E st hE => nextOf_range_end hh st (by omega) hE
set_option maxHeartbeats 1000000 in
theorem meets_enumerate_newR (r : Addr) (a b c : Int) (t u v : Tok) (hs : Builtin.Range.small a b c = true) :
    Meets (Builtin.«enumerate.__new__» ⟨[.type "enumerate", .ref r], []⟩) (fun _ R s => IsRange s.heap r a b c t u v ∧
      R (.ok (.ret (.ref (s.heap.push { cls := .type "range_iterator", data := .fields #[rawInt a, rawInt (Builtin.Range.rangeSize a b c), rawInt c] }).objs.size)))
        { s with heap := (s.heap.push { cls := .type "range_iterator", data := .fields #[rawInt a, rawInt (Builtin.Range.rangeSize a b c), rawInt c] }).push { cls := .type "enumerate", data := .fields #[.none, .bool false, .ref s.heap.objs.size, rawInt 0, .none, .none] } }) :=
  .of_wp fun prog w A R s h => by
    obtain ⟨hp, g, d, tk, os⟩ := s; obtain ⟨hl, h⟩ := h
    have hsub := sub_enumerate
    have hL : IsRange (Shared.heap ⟨hp, g, d, tk, os⟩) r a b c t u v := hl
    wp_walk using AutoSeq1.wpAny_loadPart' hl
    refine wpAny_stack_any fun st => wpAny_pure ?_
    split
    · rename_i c _ _ _ _ _
      cases (c == Value.type "enumerate")
      · wp_walk using AutoSeq1.wpAny_loadPart' hl, wpAny_pyIter_range hL hs
        exact ⟨_, rfl, h⟩
      · wp_walk using AutoSeq1.wpAny_loadPart' hl, wpAny_pyIter_range hL hs
        exact ⟨_, rfl, h⟩
    · wp_walk using AutoSeq1.wpAny_loadPart' hl, wpAny_pyIter_range hL hs
      exact ⟨_, rfl, h⟩
section
variable {prog : Program} {w : World} {A : Around} {E : Value → Shared → Prop} {s : Shared}
theorem call_enumerate_range {r : Addr} {a b c : Int} {t u v : Tok} {Q : Value → Shared → Prop} (hr : IsRange s.heap r a b c t u v) (hs : Builtin.Range.small a b c = true)
    (h : ∀ h', IsEnum h' (s.heap.objs.size + 1) s.heap.objs.size 0 .none → IsRangeIter h' s.heap.objs.size a (Builtin.Range.rangeSize a b c) c → h'.objs.size = s.heap.objs.size + 2 →
      (∀ b o, s.heap.get? b = some o → h'.get? b = some o) → Q (.ref (s.heap.objs.size + 1)) { s with heap := h' }) :
    wpAny (model prog w) A (call (.type "enumerate") [.ref r]) Q E s := by
  refine callType_new PySem.F.called_enumerate (by decide) (PySem.F.typeCall_enumerate_1 _) (PySem.F.newCall_enumerate_1 _) (fun obj => PySem.F.args_object_init_2 obj _) PySem.F.entry_enumerate_new
    (meets_enumerate_newR r a b c t u v hs) ⟨hr, ?_⟩
  generalize hro : ({ cls := .type "range_iterator", data := .fields #[rawInt a, rawInt (Builtin.Range.rangeSize a b c), rawInt c] } : PySem.Obj) = ro
  have hz : (s.heap.push ro).objs.size = s.heap.objs.size + 1 := Heap.size_push ..
  show _ ∧ _
  rw [hz]
  have he : IsEnum ((s.heap.push ro).push
      { cls := .type "enumerate", data := .fields #[.none, .bool false, .ref s.heap.objs.size, rawInt 0, .none, .none] }) (s.heap.objs.size + 1) s.heap.objs.size 0 .none := by
    have := Heap.get?_push_size (s.heap.push ro)
      (o := { cls := .type "enumerate", data := .fields #[.none, .bool false, .ref s.heap.objs.size, rawInt 0, .none, .none] }) rfl
    rw [hz] at this; exact this
  refine ⟨⟨_, he, rfl⟩, h _ he ?_ (by rw [Heap.size_push, hz]) fun b o x => Heap.get?_push_of_some _ (Heap.get?_push_of_some _ x)⟩
  subst hro
  exact Heap.get?_push_of_some _ (Heap.get?_push_size _ rfl)
theorem enumerate_next_itemD_held {e it T : Addr} {fp : List Addr} {n i : Nat} {P : Nat → Value → Prop} {St : Nat → Heap → Prop} {old : Value} {f : Bool} {oT : PySem.Obj} {Q : Value → Shared → Prop}
    (D : Draws prog w A it fp n P St) (he : IsEnumHeld s.heap e it i old T f) (hT : s.heap.get? T = some oT) (hTe : T ≠ e) (hTi : T ≠ it) (hst : St i s.heap) (hlt : i < n) (hne : e ≠ it) (hef : e ∉ fp)
    (hQ : ∀ x h' tk, P i x → IsEnumHeld h' e it ((i : Int) + 1) old T true → St (i + 1) h' →
      h'.get? s.heap.objs.size = some { cls := .type "tuple", data := .seq #[.int i tk, x] } → h'.objs.size = s.heap.objs.size + 1 →
      (∀ b o, b ≠ e → b ≠ it → s.heap.get? b = some o → h'.get? b = some o) → Q (.ref s.heap.objs.size) { s with heap := h', toks := tk + 1 }) :
    wpAny (model prog w) A (Builtin.«enumerate.__next__» ⟨[.ref e], []⟩) (fun fin s' => ∃ v, fin = .done (.ret v) ∧ Q v s') E s := by
  obtain ⟨hp, g, d, tk₀, os⟩ := s
  show wpAny _ _ (field (.ref e) 2 >>= _) _ _ _
  refine wpAny_bind (wpAny_field he rfl (x := .ref it) rfl ?_)
  refine wpAny_bind (D.item i _ _ _ hlt hst fun x h₁ tk hPx hit₁ hs₁ => ?_)
  replace hs₁ : Heap.SameBut it hp h₁ := hs₁
  have he₁ : IsEnumHeld h₁ e it i old T f := (hs₁.2 e hne).trans he
  show wpAny _ _ (field (.ref e) 3 >>= _) _ _ ⟨h₁, g, d, tk, os⟩
  refine wpAny_bind (wpAny_field he₁ rfl (x := rawInt i) rfl ?_)
  show wpAny _ _ (field (.ref e) 4 >>= _) _ _ ⟨h₁, g, d, tk, os⟩
  refine wpAny_bind (wpAny_field he₁ rfl (x := .none) rfl ?_)
  show wpAny _ _ (mkInt i >>= _) _ _ ⟨h₁, g, d, tk, os⟩
  refine wpAny_bind (wpAny_mkInt ?_)
  show wpAny _ _ (setField (.ref e) 3 (rawInt ((i : Int) + 1)) >>= _) _ _ ⟨h₁, g, d, tk + 1, os⟩
  refine wpAny_bind (wpAny_setField_rec he₁ (by simp) fun h₂ he₂ hs₂ => ?_)
  replace hs₂ : Heap.SameBut e h₁ h₂ := hs₂
  replace he₂ : IsEnumHeld h₂ e it ((i : Int) + 1) old T f := he₂
  show wpAny _ _ (setField (.ref e) 4 .none >>= _) _ _ ⟨h₂, g, d, tk + 1, os⟩
  refine wpAny_bind (wpAny_setField_rec he₂ (by simp) fun h₃ he₃ hs₃ => ?_)
  replace hs₃ : Heap.SameBut e h₂ h₃ := hs₃
  replace he₃ : IsEnumHeld h₃ e it ((i : Int) + 1) old T f := he₃
  show wpAny _ _ (newTuple [.int i tk, x] >>= _) _ _ ⟨h₃, g, d, tk + 1, os⟩
  refine wpAny_bind (wpAny_newTuple ?_)
  have he₄ : IsEnumHeld (h₃.push { cls := .type "tuple", data := .seq #[.int i tk, x] }) e it ((i : Int) + 1) old T f := Heap.get?_push_of_some _ he₃
  generalize hh₄ : h₃.push { cls := .type "tuple", data := .seq #[.int i tk, x] } = h₄ at he₄
  have hsz : h₃.objs.size = hp.objs.size := by rw [hs₃.1, hs₂.1, hs₁.1]
  have hel : e < hp.objs.size := Heap.lt_size he
  have ht₄ : h₄.get? hp.objs.size = some { cls := .type "tuple", data := .seq #[.int i tk, x] } := by rw [← hh₄, ← hsz]; exact Heap.get?_push_size _ rfl
  have hz₄ : h₄.objs.size = hp.objs.size + 1 := by rw [← hh₄, Heap.size_push, hsz]
  have hk₄ : ∀ b o, b ≠ e → b ≠ it → hp.get? b = some o → h₄.get? b = some o := fun b o hbe hbi hb => by
    rw [← hh₄]; exact Heap.get?_push_of_some _ (hs₃.extBut b o hbe (hs₂.extBut b o hbe (hs₁.extBut b o hbi hb)))
  have hit₄ : St (i + 1) h₄ := D.frame _ _ _ hit₁ fun b hb o y => by
    have hbe : b ≠ e := fun q => hef (q ▸ hb)
    rw [← hh₄]; exact Heap.get?_push_of_some _ (hs₃.extBut b o hbe (hs₂.extBut b o hbe y))
  show wpAny _ _ (Builtin.SmallTypes.ownedTupleIsFree (.ref e) >>= _) _ _ ⟨h₄, g, d, tk + 1, os⟩
  rw [hsz]
  clear hh₄ he₃ hs₃ he₂ hs₂ he₁ hs₁ hit₁ hsz h₃ h₂ h₁
  refine wpAny_bind (wpAny_tupleHeld_enum (s := ⟨h₄, g, d, tk + 1, os⟩) he₄ (hk₄ T oT hTe hTi hT) fun h₅ he₅ hs₅ => ?_)
  replace hs₅ : Heap.SameBut e h₄ h₅ := hs₅
  simp only [Bool.false_eq_true, if_false]
  refine wpAny_pure ⟨_, rfl, hQ x h₅ tk hPx he₅ (D.frame _ _ _ hit₄ fun b hb o y => hs₅.extBut b o (fun q => hef (q ▸ hb)) y) (hs₅.extBut _ _ (Nat.ne_of_gt hel) ht₄) ?_ fun b o hbe hbi hb => hs₅.extBut b o hbe (hk₄ b o hbe hbi hb)⟩
  show h₅.objs.size = hp.objs.size + 1
  rw [hs₅.1, hz₄]
theorem pyNext_enum_itemD_held {e it T : Addr} {fp : List Addr} {n i : Nat} {P : Nat → Value → Prop} {St : Nat → Heap → Prop} {old : Value} {f : Bool} {oT : PySem.Obj} {Q : Option Value → Shared → Prop}
    (D : Draws prog w A.in1 it fp n P St) (he : IsEnumHeld s.heap e it i old T f) (hT : s.heap.get? T = some oT) (hTe : T ≠ e) (hTi : T ≠ it) (hst : St i s.heap) (hlt : i < n) (hne : e ≠ it) (hef : e ∉ fp)
    (hQ : ∀ x h' tk, P i x → IsEnumHeld h' e it ((i : Int) + 1) old T true → St (i + 1) h' →
      h'.get? s.heap.objs.size = some { cls := .type "tuple", data := .seq #[.int i tk, x] } → h'.objs.size = s.heap.objs.size + 1 →
      (∀ b o, b ≠ e → b ≠ it → s.heap.get? b = some o → h'.get? b = some o) → Q (some (.ref s.heap.objs.size)) { s with heap := h', toks := tk + 1 }) :
    wpAny (model prog w) A (pyNext (.ref e)) Q E s := by
  have hTy : s.TypeIs (.ref e) "enumerate" := ⟨_, he, rfl⟩
  unfold pyNext
  exact wpAny_bind (wpAny_attempt (wpAny_callSpecial?_slot (name := Str.ofString "__next__") hTy PySem.F.slot_enumerate_next
    (wpAny_call_entry PySem.F.slot_enumerate_next hTy PySem.F.entry_enumerate_next
      (enumerate_next_itemD_held D he hT hTe hTi hst hlt hne hef fun x h' tk a1 a2 a3 a4 a5 a6 => wpAny_pure (hQ x h' tk a1 a2 a3 a4 a5 a6)) (PySem.F.args_enumerate_next_1 _))))
theorem pyNext_enum_endD_held {e it T : Addr} {fp : List Addr} {n : Nat} {P : Nat → Value → Prop} {St : Nat → Heap → Prop} {i : Int} {old : Value} {f : Bool} {Q : Option Value → Shared → Prop}
    (D : Draws prog w A.in1 it fp n P St) (he : IsEnumHeld s.heap e it i old T f) (hst : St n s.heap)
    (hQ : ∀ h', Heap.ExtBut it s.heap h' → Q none { s with heap := h' }) : wpAny (model prog w) A (pyNext (.ref e)) Q E s := by
  have hT : s.TypeIs (.ref e) "enumerate" := ⟨_, he, rfl⟩
  unfold pyNext
  refine wpAny_bind (wpAny_attempt (wpAny_callSpecial?_slot (name := Str.ofString "__next__") hT PySem.F.slot_enumerate_next
    (wpAny_call_entry PySem.F.slot_enumerate_next hT PySem.F.entry_enumerate_next ?_ (PySem.F.args_enumerate_next_1 _))))
  show wpAny _ _ (field (.ref e) 2 >>= _) _ _ _
  refine wpAny_bind (wpAny_field he rfl (x := .ref it) rfl ?_)
  refine wpAny_bind (D.done _ _ _ hst fun h' x he' hx' => ?_)
  obtain ⟨o, ho, hc⟩ := hx'
  refine wpAny_bind (wpAny_isInstance (T := "StopIteration") (b := true) ⟨o, ho, hc⟩ isSubtype_stop ?_)
  exact wpAny_pure (hQ _ he')
end
theorem pairArg_enumR {prog : Program} {w : World} (e it : Addr) (hei : e ≠ it) (a : Int) (n : Nat) :
    PairArg prog w "enumerate" e [e, it] [e, it] n (fun i k v => (∃ t, k = .int i t) ∧ ∃ t, v = .int (a + i) t)
      (fun h => (∃ old, IsEnum h e it 0 old) ∧ IsRangeIter h it a n 1) where
  type := fun s ok => let ⟨⟨_, he⟩, _⟩ := ok; ⟨_, he, rfl⟩
  notDict := by decide
  keep := fun h h' ok hk => by
    obtain ⟨⟨old, he⟩, hit⟩ := ok
    exact ⟨⟨old, hk _ _ he⟩, hk _ _ hit⟩
  there := fun h ok b hb => by
    obtain ⟨⟨old, he⟩, h1⟩ := ok
    simp only [List.mem_cons, List.not_mem_nil, or_false] at hb
    rcases hb with rfl | rfl
    all_goals first | exact ⟨_, he⟩ | exact ⟨_, h1⟩
  sub := fun b hb => hb
  noKeys := fun A s Q E hA ok h => let ⟨⟨_, he⟩, _⟩ := ok; getAttrOr_miss_enumerate he rfl rfl rfl enumerate_no_keys (by decide +kernel) hA h
  iter := fun A s d Q E hA ok hd hdf h => by
    obtain ⟨⟨old, he⟩, hit⟩ := ok
    simp only [List.mem_cons, List.not_mem_nil, or_false, not_or] at hdf
    obtain ⟨de, dit⟩ := hdf
    have D := draws_range (prog := prog) (w := w) (A := A.in1) hA it a n
    have hef : e ∉ [it] := fun q => hei (List.mem_singleton.mp q)
    refine wpAny_pyIter_enum he (h e [e, it] (fun i h => IsRangeIter h it (a + i) ((n : Int) - i) 1 ∧ ((∃ old, IsEnum h e it i old) ∨ ∃ old T f oT, IsEnumHeld h e it i old T f ∧ h.get? T = some oT ∧ T ≠ e ∧ T ≠ it ∧ T ≠ d)) s.heap s.toks ?_
      ⟨by simpa using hit, .inl ⟨old, he⟩⟩ (fun _ _ e => e) fun b hb => .inl hb)
    exact {
      off := fun hm => by
        simp only [List.mem_cons, List.not_mem_nil, or_false] at hm
        rcases hm with x | x
        · exact de x
        · exact dit x
      frame := fun i h₁ h₂ st hk => by
        obtain ⟨hit, he⟩ := st
        refine ⟨hk _ _ (Ne.symm dit) hit, ?_⟩
        rcases he with ⟨old, he⟩ | ⟨old, T, f, oT, he, hT, r1, r2, r3⟩
        · exact .inl ⟨old, hk _ _ (Ne.symm de) he⟩
        · exact .inr ⟨old, T, f, oT, hk _ _ (Ne.symm de) he, hk _ _ r3 hT, r1, r2, r3⟩
      item := fun i s₁ Q₁ E₁ hi st hds hQ => by
        obtain ⟨hit, he⟩ := st
        have ec : ((i + 1 : Nat) : Int) = (i : Int) + 1 := by omega
        have nit : s₁.heap.objs.size ≠ it := Nat.ne_of_gt (Heap.lt_size hit)
        rcases he with ⟨old, he⟩ | ⟨old, T, f, oT, he, hT, r1, r2, r3⟩
        · refine wpAny_pyNext_enum_itemD D he hit hi hei hef fun x h' tk hP ho hit' hT hsz hk => ?_
          exact hQ s₁.heap.objs.size _ _ h' (tk + 1) ⟨⟨_, rfl⟩, hP⟩ (.inl ⟨_, hT, rfl, _, rfl⟩)
            ⟨hit', .inr ⟨_, s₁.heap.objs.size, false, _, (by rw [ec]; exact ho), hT, Nat.ne_of_gt (Heap.lt_size he), nit, Nat.ne_of_gt hds⟩⟩
            fun b o hb x => hk b o (fun y => hb (by simp [y])) (fun y => hb (by simp [y])) x
        · refine pyNext_enum_itemD_held D he hT r1 r2 hit hi hei hef fun x h' tk hP ho hit' hT' hsz hk => ?_
          exact hQ s₁.heap.objs.size _ _ h' (tk + 1) ⟨⟨_, rfl⟩, hP⟩ (.inl ⟨_, hT', rfl, _, rfl⟩)
            ⟨hit', .inr ⟨old, T, true, oT, (by rw [ec]; exact ho), hk _ _ r1 r2 hT, r1, r2, r3⟩⟩
            fun b o hb x => hk b o (fun y => hb (by simp [y])) (fun y => hb (by simp [y])) x
      done := fun s₁ Q₁ E₁ st hQ => by
        obtain ⟨hit, he⟩ := st
        rcases he with ⟨old, he⟩ | ⟨old, T, f, oT, he, hT, r1, r2, r3⟩
        · exact wpAny_pyNext_enum_endD D he hit fun h' hk => hQ h' s₁.toks fun b o hb x => hk b o (fun y => hb (by simp [y])) x
        · exact pyNext_enum_endD_held D he hit fun h' hk => hQ h' s₁.toks fun b o hb x => hk b o (fun y => hb (by simp [y])) x }
/-- the dict of the numbers 0.. with a + 0.. -/
def enK (i : Nat) : Key := .inl i
theorem KV.snoc {xs : List (Key × V)} {vs : List (Key × Value)} {k : Key} {x : V} {v : Value} (h : KV xs vs) (r : RelV x v) : KV (xs ++ [(k, x)]) (vs ++ [(k, v)]) := by
  induction h with
  | nil => exact .cons ⟨rfl, r⟩ .nil
  | cons p _ ih => exact .cons p ih
def enV (a : Int) (n : Nat) : List (Key × V) := (List.range n).map fun (i : Nat) => ((.inl (i : Int) : Key), (.int (a + i) : V))
theorem enV_succ (a : Int) (n : Nat) : enV a (n + 1) = enV a n ++ [((.inl (n : Int) : Key), (.int (a + n) : V))] := by
  unfold enV
  rw [List.range_succ, List.map_append]
  rfl
theorem enV_len (a : Int) (n : Nat) : (enV a n).length = n := by unfold enV; rw [List.length_map, List.length_range]
theorem KV.keys {xs : List (Key × V)} {vs : List (Key × Value)} (h : KV xs vs) : vs.map (·.1) = xs.map (·.1) ∧ vs.length = xs.length := by
  induction h with
  | nil => exact ⟨rfl, rfl⟩
  | cons p _ ih => exact ⟨by rw [List.map_cons, List.map_cons, ih.1, p.1], by rw [List.length_cons, List.length_cons, ih.2]⟩
theorem stored_new {vs : List (Key × Value)} {k : Key} {v : Value} (h : k ∉ vs.map (·.1)) : stored vs k v = vs ++ [(k, v)] := by
  unfold stored
  rw [if_neg]
  intro q
  simp only [List.any_eq_true, decide_eq_true_eq] at q
  obtain ⟨x, hx, e⟩ := q
  exact h (List.mem_map.mpr ⟨x, hx, e⟩)
section
variable {prog : Program} {w : World} {A : Around} {E : Value → Shared → Prop} {s : Shared}
theorem call_dict_enumR {e it : Addr} {a : Int} {n : Nat} {Q : Value → Shared → Prop} (hh : A.handled = none) (hei : e ≠ it) (ok : (∃ old, IsEnum s.heap e it 0 old) ∧ IsRangeIter s.heap it a n 1) (hsz : n ≤ sizeLine)
    (h : ∀ h' tk vs, KV (enV a n) vs → h'.DictOf (mixKind prog w) s.heap.objs.size vs → (∀ b o, b ∉ [e, it] → s.heap.get? b = some o → h'.get? b = some o) → Q (.ref s.heap.objs.size) { s with heap := h', toks := tk }) :
    wpAny (model prog w) A (call (.type "dict") [.ref e]) Q E s := by
  have P := pairArg_enumR (prog := prog) (w := w) e it hei a n
  refine call_dict_arg P ok fun s₁ hs₁ hdf ok₁ => ?_
  subst hs₁
  have P := pairArg_enumR (prog := prog) (w := w) e it hei a n
  refine updateFrom_arg (A := A.in1) (Tab := fun i h => ∃ vs, KV (enV a i) vs ∧ h.DictOf (mixKind prog w) s.heap.objs.size vs) P .none hh ok₁ hdf ⟨[], .nil, Heap.DictOf.new s.heap⟩ (fun _ _ ⟨_, _, tb⟩ => tb.lt_size) (fun i h h' wr' hd _ ⟨vs, kv, tb⟩ hk => ⟨vs, kv, tb.at' fun o e => hk _ o hd e⟩) ?_ ?_
  · intro i k v s' Q' E' hi hrel tb _ hQ
    obtain ⟨⟨t, rfl⟩, t', rfl⟩ := hrel
    obtain ⟨vs, kv, tb⟩ := tb
    have hl : vs.length = i := by rw [(KV.keys kv).2, enV_len]
    refine wpAny_dictSet_pairs (knd := mixKind prog w) (k := (.inl (i : Int) : Key)) (hsz := by omega) (mixKind_int prog w i t) tb fun h' hm' hs => ?_
    refine hQ h' _ ⟨_, ?_, hm'⟩ hs
    rw [stored_new, enV_succ]
    · exact KV.snoc kv ⟨_, rfl⟩
    · rw [(KV.keys kv).1]
      intro q
      obtain ⟨x, hx, e⟩ := List.mem_map.mp q
      obtain ⟨j, hj, rfl⟩ := List.mem_map.mp hx
      have := List.mem_range.mp hj
      have e : (.inl (j : Int) : Key) = .inl (i : Int) := e
      injection e with e
      omega
  · intro h' tk tb hk
    obtain ⟨vs, kv, tb⟩ := tb
    exact ⟨rfl, h h' tk vs kv tb fun b o hw e => hk b o (Nat.ne_of_lt (Heap.lt_size e)) hw (Heap.get?_push_of_some _ e)⟩
end
section
variable {X : Cx} {N : Hp} {z : Ev} {C : CallFn} {G : String → Option D} {pos p2 p3 : Pos} {ea eb : E}
def tDctEn (te : L2.St → Hp → (Int → Int → Hp → Prop) → Prop) : TE := fun σ H Q => te σ H fun a b H1 => (0 ≤ a ∧ a ≤ 2 ^ 24 ∧ 0 ≤ b ∧ b ≤ 2 ^ 23) ∧ ∀ q, H1 q = none → Q (.ref q) (upd H1 q (.dK (enV a (b - a).toNat)))
theorem pe_dctEn {e : Expr} {te : L2.St → Hp → (Int → Int → Hp → Prop) → Prop} {q q2 pos : Pos} (hc : X.calm = true) (hg : Gl X "dict") (hm : X.mg "dict" = none) (hg2 : Gl X "enumerate") (hm2 : X.mg "enumerate" = none) (he : PRg X e te)
    (na : starEach [e] X.env = (false, eval e X.env) :: starEach [] X.env := by rfl)
    (nb : starEach [.Call (.Name "enumerate" q2) [e] [] p2] X.env = (false, eval (.Call (.Name "enumerate" q2) [e] [] p2) X.env) :: starEach [] X.env := by rfl) :
    PE X (.Call (.Name "dict" q) [.Call (.Name "enumerate" q2) [e] [] p2] [] pos) (tDctEn te) := by
  refine ⟨fun pins s σ H Q I h => ?_⟩
  refine Call_ (ld_blt I hg hm boot_dict (PyProof.Rows.callWith_type1 (args_cons (thn (Q := fun x s2 => ∃ (s1 : Shared) (a b : Int) (H1 : Hp), x = .ref (s1.heap.objs.size + 1) ∧ Inv X pins σ H1 s1 ∧ ((0 ≤ a ∧ a ≤ 2 ^ 24 ∧ 0 ≤ b ∧ b ≤ 2 ^ 23) ∧ ∀ q, H1 q = none → Q (.ref q) (upd H1 q (.dK (enV a (b - a).toNat)))) ∧
      ∃ h', s2 = { s1 with heap := h' } ∧ IsEnum h' (s1.heap.objs.size + 1) s1.heap.objs.size 0 .none ∧ IsRangeIter h' s1.heap.objs.size a (Builtin.Range.rangeSize a b 1) 1 ∧ h'.objs.size = s1.heap.objs.size + 2 ∧ ∀ b o, s1.heap.get? b = some o → h'.get? b = some o) ?_ fun x s2 hx => args_nil ?_) nb) nb))
  · refine Call_ (ld_blt I hg2 hm2 boot_enumerate (PyProof.Rows.callWith_type1 (args_cons (thn (he pins s σ H _ I h) fun x s1 ⟨rg, a, b, t, u, v, H1, ex, hr, I1, hz, q⟩ => args_nil ?_) na) na))
    subst ex
    refine call_enumerate_range hr ?_ fun h' h1 h2 h3 h4 => ⟨s1, a, b, H1, rfl, I1, ⟨hz, q⟩, h', rfl, h1, h2, h3, h4⟩
    have e := rangeSize_nat a b
    unfold Builtin.Range.small Builtin.Range.rangeFitsLong
    rw [e]
    simp only [Bool.and_eq_true, Bool.or_eq_true, decide_eq_true_eq]
    refine ⟨⟨⟨⟨⟨by omega, by omega⟩, by omega, by omega⟩, by decide⟩, by omega, by omega⟩, .inr ?_⟩
    rw [if_pos (by decide)]
    simp only [Bool.and_eq_true, decide_eq_true_eq]
    omega
  · obtain ⟨s1, a, b, H1, rfl, I1, ⟨hz, q⟩, h', rfl, h1, h2, h3, h4⟩ := hx
    have hn : Builtin.Range.rangeSize a b 1 = ((b - a).toNat : Int) := rangeSize_nat a b
    rw [hn] at h2
    refine call_dict_enumR (I1.ok.hd hc) (Nat.succ_ne_self _) ⟨⟨_, h1⟩, h2⟩ (by rw [sizeLine_eq]; omega) fun h'' tk vs kv hd hk => ?_
    have hs : h'.objs.size = s1.heap.objs.size + 2 := h3
    refine ⟨.ref h'.objs.size, upd H1 h'.objs.size (.dK (enV a (b - a).toNat)), I1.laid (fun c o e => hk c o (fun hm => ?_) (h4 c o e)) (by omega) (show ObjOk X.prog X.w _ _ _ (.dK (enV a (b - a).toNat)) from dk_new (by rw [enV_len, sizeLine_eq]; omega) ?_ kv hd), rfl, q _ (I1.hok.fresh (by omega))⟩
    · have lt : c < s1.heap.objs.size := Heap.lt_size e
      simp only [List.mem_cons, List.not_mem_nil, or_false] at hm
      rcases hm with rfl | rfl
      · exact Nat.lt_irrefl _ (Nat.lt_of_succ_lt lt)
      · exact Nat.lt_irrefl _ lt
    · refine beq_eq_false_iff_ne.mpr (Ne.symm (Nat.ne_of_lt ?_))
      rw [hs]
      exact Nat.lt_of_lt_of_le I1.big (Nat.le_add_right _ _)
theorem fz_en {K : PySem.W.Frag} {p : Ph} (a : Int) : ∀ (n : Nat) (f g : Nat → Int), FzKV K p ((List.range n).map fun i => (D.int (f i), D.int (g i))) ((List.range n).map fun i => ((.inl (f i) : Key), V.int (g i)))
  | 0, f, g => rfl
  | n + 1, f, g => by
    rw [List.range_succ_eq_map, List.map_cons, List.map_cons, List.map_map, List.map_map]
    exact ⟨_, _, _, rfl, rfl, rfl, fz_en a n (f ∘ Nat.succ) (g ∘ Nat.succ)⟩
theorem pv_denum2 {a b : Expr} {q q2 q3 : Pos} (hc : X.calm = true) (hg : Gl X "dict") (hm : X.mg "dict" = none) (hg1 : Gl X "enumerate") (hm1 : X.mg "enumerate" = none) (hg2 : Gl X "range") (hm2 : X.mg "range" = none) (ha : PE X a (tE X.K N z ea)) (hb : PE X b (tE X.K N z eb))
    (na : starEach [a, b] X.env = (false, eval a X.env) :: starEach [b] X.env := by rfl) (nb : starEach [b] X.env = (false, eval b X.env) :: starEach [] X.env := by rfl) (hp : (backTo p2 (starEach [b] X.env)).any (·.1) = false := by rfl)
    (ne : starEach [.Call (.Name "range" q2) [a, b] [] p2] X.env = (false, eval (.Call (.Name "range" q2) [a, b] [] p2) X.env) :: starEach [] X.env := by rfl)
    (nf : starEach [.Call (.Name "enumerate" q3) [.Call (.Name "range" q2) [a, b] [] p2] [] p3] X.env = (false, eval (.Call (.Name "enumerate" q3) [.Call (.Name "range" q2) [a, b] [] p2] [] p3) X.env) :: starEach [] X.env := by rfl) :
    PE X (.Call (.Name "dict" q) [.Call (.Name "enumerate" q3) [.Call (.Name "range" q2) [a, b] [] p2] [] p3] [] pos) (tE X.K N z (.denum2 ea eb)) := by
  refine peImp (pe_dctEn hc hg hm hg1 hm1 (prg_2 hg2 hm2 ha hb na nb hp) ne nf) fun σ H Q h => ?_
  obtain ⟨p, env, μ, Po, rfl, sr, hw, post⟩ := h
  refine ⟨p, env, μ, _, rfl, sr, hw, fun k x env1 μ1 p1 v h1 sr1 st1 vr1 => ⟨p1, env1, μ1, _, rfl, sr1, h1, fun k' y env2 μ2 p3 w h2 sr2 st2 vr2 => ?_⟩⟩
  obtain ⟨i, j, ⟨rfl, rfl⟩, ⟨h3, h4, h5, h6⟩, h2⟩ := h2
  obtain rfl : v = .int i := vr1.an sr1
  obtain rfl : w = .int j := vr2.an sr2
  refine ⟨i, j, rfl, rfl, ⟨by omega, by omega, by omega, by omega⟩, fun c hc => ?_⟩
  have n := new_dic (K := X.K) (ds := enumL i (j - i).toNat) (vs := enV i (j - i).toNat) hc (fz_en (p := p3) i (j - i).toNat (fun k => (k : Int)) fun k => i + (k : Int))
  exact post .fresh _ env2 μ2 _ _ h2 (sr2.ext n.1) ((st1.trans st2).trans n.1.step) (n.2.vr (st1.trans st2))
end
end Pv

set_option autoImplicit false
set_option linter.all false
set_option Elab.async false
set_option maxRecDepth 100000
namespace Pv
open PySem PySem.Spec PyProof.Rows L2
open Sem (wp)
section
variable {P : Program} {w : World}
theorem isStr_is (k : Str) (u : Tok) : (strKind P w).is k (.str k u) = true := by
  show Value.isStrOf k (.str k u) = true
  simp [Value.isStrOf]
end

/-! ### what a set of texts is -/
def keyOfS (e : Int × Value) : Str := match e.2 with | .str k _ => k | _ => ⟨#[]⟩
def GoodS (w : World) (e : Int × Value) : Prop := ∃ k tk, e.2 = Value.str k tk ∧ e.1 = hashStr w k

/-- the set of texts at a: S its members, n their number; its table rises and can be walked -/
def SetRS (w : World) (h : Heap) (a : Addr) (S : Str → Bool) (n : Nat) : Prop :=
  ∃ o es ep t, h.get? a = some o ∧ o.ExactSet ∧ o.data = .set es ep t ∧ (∀ e ∈ es.toList, GoodS w e) ∧ (es.toList.map keyOfS).Nodup ∧ (∀ k, S k = true ↔ k ∈ es.toList.map keyOfS) ∧
    es.size < scanBound ∧ t.fits es.size = true ∧ es.size = n ∧ Ris t.place.toList ∧ (w.params.followText "set-order" = true ∨ t.led = true)

section
variable {P : Program} {w : World} {h h' : Heap} {a : Addr} {S : Str → Bool} {n : Nat}

theorem SetRS.at (R : SetRS w h a S n) (k : ∀ o, h.get? a = some o → h'.get? a = some o) : SetRS w h' a S n := by
  obtain ⟨o, es, ep, t, ho, r⟩ := R
  exact ⟨o, es, ep, t, k o ho, r⟩
theorem SetRS.lt (R : SetRS w h a S n) : a < h.objs.size := by
  obtain ⟨o, es, ep, t, ho, r⟩ := R
  exact Heap.lt_size ho
theorem SetRS.congr {S' : Str → Bool} (R : SetRS w h a S n) (e : ∀ k, S' k = S k) : SetRS w h a S' n := by
  have q : S' = S := funext e
  rw [q]; exact R
theorem goodS_elems {l : List (Int × Value)} (g : ∀ e ∈ l, GoodS w e) : ElemsOf (strKind P w) l := fun e he => by
  obtain ⟨k, tk, h1, h2⟩ := g e he
  exact ⟨⟨k, by rw [h1]; exact isStr_is k tk, h2⟩, by rw [h1] <;> rfl⟩
theorem goodS_is {e : Int × Value} (g : GoodS w e) (k : Str) : (strKind P w).is k e.2 = true ↔ keyOfS e = k := by
  obtain ⟨k0, tk, h1, _⟩ := g
  unfold keyOfS
  rw [h1]
  show (Value.isStrOf k (.str k0 tk) = true) ↔ k0 = k
  simp [Value.isStrOf]
theorem goodS_mem {l : List (Int × Value)} (g : ∀ e ∈ l, GoodS w e) (k : Str) : k ∈ l.map keyOfS ↔ ∃ e ∈ l, (strKind P w).is k e.2 = true := by
  rw [List.mem_map]
  constructor
  · rintro ⟨e, he, q⟩
    exact ⟨e, he, (goodS_is (g e he) k).2 q⟩
  · rintro ⟨e, he, q⟩
    exact ⟨e, he, (goodS_is (g e he) k).1 q⟩
theorem SetRS.setOf (R : SetRS w h a S n) : h.SetOf (strKind P w) a S n := by
  obtain ⟨o, es, ep, t, ho, hx, hd, g, nd, hm, hb, hf, hn, _⟩ := R
  exact ⟨o, es, ep, t, ho, hx, hd, goodS_elems g, fun k => (hm k).trans (goodS_mem g k), hb, hf, hn⟩
end

section
variable {P : Program} {w : World} {A : Around} {E : Value → Shared → Prop} {s : Shared} {a : Addr} {S : Str → Bool} {n : Nat}

/-! ### add -/
theorem storeS_at {h : Heap} {a : Addr} {o : PySem.Obj} {es es' : Array (Int × Value)} {ep : Nat} {t t' : SetTable} (ho : h.get? a = some o) (hd : o.data = .set es ep t) :
    (h.update a (PySem.Obj.putSet es' t')).get? a = some { o with data := .set es' (ep + 1) t' } := by
  have q := Heap.get?_update_self (PySem.Obj.putSet es' t') ho (by rw [putSet_of es' t' hd]; rfl)
  rw [putSet_of es' t' hd] at q
  exact q

theorem setRS_add_tail {g : Bool → Sem Unit} (hg : ∀ (b : Bool) (s₁ : Shared) (Q' : Unit → Shared → Prop), Q' () s₁ → wpAny (model P w) A (g b) Q' E s₁)
    {o : PySem.Obj} {es : Array (Int × Value)} {ep : Nat} {t : SetTable} (ho : s.heap.get? a = some o) (hex : o.ExactSet) (hd : o.data = .set es ep t)
    {es1 : Array (Int × Value)} {t2 : SetTable} {S' : Str → Bool} (g1 : ∀ e ∈ es1.toList, GoodS w e) (nd1 : (es1.toList.map keyOfS).Nodup) (m1 : ∀ k, S' k = true ↔ k ∈ es1.toList.map keyOfS)
    (hb1 : es1.size < scanBound) (hf2 : t2.fits es1.size = true) (hr : Ris t2.place.toList) (hl : w.params.followText "set-order" = true ∨ t2.led = true) {wasDummy : Bool} {R : Option Bool → Shared → Prop}
    (hR : ∀ h', Heap.SameBut a s.heap h' → SetRS w h' a S' es1.size → R (some true) { s with heap := h' }) :
    wpAny (model P w) A (do
        storeSet a es1 t2
        if (!wasDummy && t2.tooFull) = true then do
            g (relayAll t2 es1 (SetTable.grown es1.size)).2.2
            storeSet a (relayAll t2 es1 (SetTable.grown es1.size)).1 (relayAll t2 es1 (SetTable.grown es1.size)).2.1
            pure (some true)
          else pure (some true)) R E s := by
  refine wpAny_bind (wpAny_storeSet_of ho hd ?_ (fits_of_scanBound hb1))
  have ho1 := storeS_at (es' := es1) (t' := t2) ho hd
  have sb1 := Heap.SameBut.update s.heap a (PySem.Obj.putSet es1 t2)
  split
  · have pm := relayAll_perm t2 es1 (SetTable.grown es1.size)
    have hf3 := relayAll_fits t2 es1 (SetTable.grown es1.size)
    have hr3 := relayAll_ris t2 es1 (SetTable.grown es1.size)
    have hl3 := relayAll_led t2 es1 (SetTable.grown es1.size)
    generalize relayAll t2 es1 (SetTable.grown es1.size) = Z at pm hf3 hr3 hl3 ⊢
    obtain ⟨es2, t3, gave⟩ := Z
    dsimp only at pm hf3 hr3 hl3 ⊢
    have hsz : es2.size = es1.size := by rw [← Array.length_toList, pm.length_eq, Array.length_toList]
    have hb2 : es2.size < scanBound := by rw [hsz]; exact hb1
    refine wpAny_bind (hg _ _ _ ?_)
    refine wpAny_bind (wpAny_storeSet_of ho1 rfl ?_ (fits_of_scanBound hb2))
    have ho2 := storeS_at (es' := es2) (t' := t3) ho1 rfl
    refine wpAny_pure (hR _ (sb1.trans (Heap.SameBut.update _ a _)) ?_)
    exact ⟨_, es2, _, t3, ho2, hex, rfl, fun e he => g1 e (pm.mem_iff.mp he), (pm.map keyOfS).nodup_iff.mpr nd1, fun k => (m1 k).trans (pm.map keyOfS).mem_iff.symm, hb2, hf3, hsz, hr3,
      hl.imp id fun z => by rw [hl3]; exact z⟩
  · exact wpAny_pure (hR _ sb1 ⟨_, es1, _, t2, ho1, hex, rfl, g1, nd1, m1, hb1, hf2, rfl, hr, hl⟩)

theorem setRS_add_hashed {k : Str} {tk : Tok} {Q : Bool → Shared → Prop} (R : SetRS w s.heap a S n) (room : n + 1 < scanBound)
    (hQ : ∀ h', Heap.SameBut a s.heap h' → SetRS w h' a (fun j => S j || decide (j = k)) (if S k = true then n else n + 1) → Q (!S k) { s with heap := h' }) :
    wpAny (model P w) A (setAddHashed a (.str k tk) ((strKind P w).hash k)) Q E s := by
  obtain ⟨o, es, ep, t, ho, hex, hd, g, nd, hm, hb, hf, hn, hr, hl⟩ := R
  have hkey : (strKind P w).is k (.str k tk) = true := isStr_is k tk
  have hsc : (Value.str k tk).scannable = true := rfl
  have hel : ElemsOf (strKind P w) es.toList := goodS_elems g
  unfold setAddHashed setAddHashedIn
  refine wpAny_holding (wpAny_bind (wpAny_setState_of ho hd hf ?_))
  dsimp only
  rw [byScan_of hsc hb hel]
  simp only [↓reduceIte]
  unfold setAddByScan
  refine wpAny_bind ?_
  refine wpAny_bind (wpAny_rule ?_)
  refine wpAny_bind (wpAny_setScan_of hkey ho hd hf hel ?_)
  cases hfi : List.findIdx? (fun e => (strKind P w).is k e.2) es.toList with
  | some j =>
    dsimp only
    obtain ⟨hj, pj, _⟩ := List.findIdx?_eq_some_iff_getElem.mp hfi
    have hSk : S k = true := (hm k).2 ((goodS_mem (P := P) (w := w) g k).2 ⟨es.toList[j], List.getElem_mem hj, pj⟩)
    refine wpAny_pure (wpAny_pure ?_)
    have q := hQ s.heap (Heap.SameBut.refl a s.heap) ⟨o, es, ep, t, ho, hex, hd, g, nd, fun i => by
      rw [Bool.or_eq_true, decide_eq_true_eq, ← hm i]
      exact ⟨fun z => z.elim id (fun e => e ▸ hSk), .inl⟩, hb, hf, by rw [if_pos hSk]; exact hn, hr, hl⟩
    rw [hSk] at q
    exact q
  | none =>
    dsimp only
    have hnk : k ∉ es.toList.map keyOfS := fun z => by
      obtain ⟨e, he, q⟩ := (goodS_mem (P := P) (w := w) g k).1 z
      have c := List.findIdx?_eq_none_iff.mp hfi e he
      rw [q] at c
      cases c
    have hSk : S k = false := by
      cases q : S k with
      | false => rfl
      | true => exact absurd ((hm k).1 q) hnk
    have hgw : ∀ (b : Bool) {s₁ : Shared} {Q' : Unit → Shared → Prop}, Q' () s₁ → wpAny (model P w) A (match b with | true => rule "set.scan.the-table-gave-way" | false => pure ()) Q' E s₁ :=
      fun b s₁ Q' q => by cases b <;> first | exact wpAny_pure q | exact wpAny_rule q
    have pm := layNew_perm t es ((strKind P w).hash k) (.str k tk)
    have hf1 := layNew_fits t es ((strKind P w).hash k) (.str k tk)
    have hr1 := layNew_ris t es ((strKind P w).hash k) (.str k tk) hr
    have hl1 := layNew_led t es ((strKind P w).hash k) (.str k tk)
    generalize layNew t es ((strKind P w).hash k) (.str k tk) = Z at pm hf1 hr1 hl1 ⊢
    obtain ⟨es1, t1, wasDummy, gave⟩ := Z
    dsimp only at pm hf1 hr1 hl1 ⊢
    rw [Array.toList_push] at pm
    have pc : es1.toList.Perm (((strKind P w).hash k, Value.str k tk) :: es.toList) := pm.trans (List.perm_append_singleton _ _)
    have pk : (es1.toList.map keyOfS).Perm (k :: es.toList.map keyOfS) := pc.map keyOfS
    have g1 : ∀ e ∈ es1.toList, GoodS w e := fun e he => by
      rcases List.mem_cons.mp (pc.mem_iff.mp he) with z | z
      · rw [z]; exact ⟨k, tk, rfl, rfl⟩
      · exact g e z
    have nd1 : (es1.toList.map keyOfS).Nodup := pk.nodup_iff.mpr (List.nodup_cons.mpr ⟨hnk, nd⟩)
    have m1 : ∀ i, (S i || decide (i = k)) = true ↔ i ∈ es1.toList.map keyOfS := fun i => by
      rw [Bool.or_eq_true, decide_eq_true_eq, hm i, pk.mem_iff, List.mem_cons]
      exact Or.comm
    have hsz : es1.size = n + 1 := by rw [← Array.length_toList, pc.length_eq, List.length_cons, Array.length_toList, hn]
    have hb1 : es1.size < scanBound := by rw [hsz]; exact room
    have hled : w.params.followText "set-order" = true ∨ t1.led = true := hl.imp id fun z => by rw [hl1]; exact z
    have fin : ∀ h', Heap.SameBut a s.heap h' → SetRS w h' a (fun j => S j || decide (j = k)) es1.size → Q true { s with heap := h' } := fun h' sb r => by
      have q := hQ h' sb
      rw [hSk] at q
      rw [hsz] at r
      exact q r
    refine wpAny_bind (hgw _ ?_)
    split
    · refine wpAny_bind ?_
      rw [hashByValue_scannable 8 hsc]
      refine wpAny_pure ?_
      refine setRS_add_tail ?_ ho hex hd g1 nd1 m1 hb1 ?_ ?_ ?_ ?_
      · intro b s₁ Q' q; cases b <;> first | exact wpAny_pure q | exact wpAny_rule q
      · first | (split <;> first | exact hf1 | exact SetTable.fits_plain_off hf1) | exact hf1
      · first | (split <;> exact hr1) | exact hr1
      · first | (split <;> exact hled) | exact hled
      · intro h' sb r; dsimp only; exact wpAny_pure (fin h' sb r)
    · refine wpAny_bind (wpAny_pure ?_)
      simp only [↓reduceIte]
      refine setRS_add_tail ?_ ho hex hd g1 nd1 m1 hb1 hf1 hr1 hled ?_
      · intro b s₁ Q' q; cases b <;> first | exact wpAny_pure q | exact wpAny_rule q
      · intro h' sb r; dsimp only; exact wpAny_pure (fin h' sb r)


end
theorem strsAt {us : List Value} {xs : List Str} (h : StrsAre us xs) : ∀ (i : Nat) (v : Value), us[i]? = some v → ∃ k t, xs[i]? = some k ∧ v = .str k t := by
  induction h with
  | nil => exact fun i v e => by simp at e
  | cons y t _ ih =>
    intro i v e
    match i with
    | 0 => exact ⟨y, t, rfl, (Option.some.inj e).symm⟩
    | i + 1 => exact ih i v e
theorem strsAre_len {us : List Value} {xs : List Str} (h : StrsAre us xs) : us.length = xs.length := by
  induction h with
  | nil => rfl
  | cons y t _ ih => rw [List.length_cons, List.length_cons, ih]
theorem setRS_new_at {w : World} {h : Heap} {a : Addr} {ns : List Str} (ho : h.get? a = some { cls := .type "set", dict := none, data := .set #[] 0 (.fresh 0 0 (!w.params.followText "set-order")) }) : SetRS w h a (fun j => decide (j ∈ ns.take 0)) 0 :=
  ⟨_, #[], 0, _, ho, ⟨rfl, rfl, rfl⟩, rfl, (fun e he => by simp at he), (by simp), (fun k => by simp), (by decide), (by rfl), rfl, List.Pairwise.nil, by
    show _ ∨ (!w.params.followText "set-order") = true
    cases w.params.followText "set-order"
    · exact .inr rfl
    · exact .inl rfl⟩
section
variable {P : Program} {w : World} {A : Around} {E : Value → Shared → Prop} {s : Shared}
theorem set_update_strs {I : Addr} {fp wr : List Addr} {G : Array GenState → Array GenState → Prop} {n : Nat} {Pv : Nat → Value → Prop} {St : Nat → Shared → Prop} {R : Result → Shared → Prop}
    (W : WalksS P w A.in1 I fp wr G n Pv St) (S : Addr) (hSf : S ∉ fp) (ns : List Str) (hn : n = ns.length) (hb : ns.length + 1 < scanBound) (hval : ∀ i v, Pv i v → ∃ k t, ns[i]? = some k ∧ v = .str k t) :
    ∀ (k i : Nat) (s : Shared), n - i = k → i ≤ n → St i s → (∃ c, c ≤ i ∧ SetRS w s.heap S (fun j => decide (j ∈ ns.take i)) c) →
      (∀ s' c, Moved (S :: wr) G s s' → c ≤ n → SetRS w s'.heap S (fun j => decide (j ∈ ns)) c → R (.ok (.ret .none)) s') →
      codeAny (model P w) A (.builtin "set.update.loop" ⟨[.ref S, .ref I], []⟩) R s := by
  have hSw : S ∉ wr := fun h => hSf (W.sub _ h)
  have hsub : ∀ b ∈ wr, b ∈ S :: wr := fun b hb => List.mem_cons_of_mem _ hb
  intro k
  induction k with
  | zero =>
    intro i s hk' hi hst ⟨c, hc, hS⟩ hR
    have hin : i = n := by omega
    subst hin
    refine codeAny_builtin F.entry_set_update_loop ?_
    rw [Around.under_plainId F.plain_set_update_loop _]
    show wpAny _ A.in1 (pyNext (.ref I) >>= _) _ _ s
    refine wpAny_bind (W.done s _ _ hst fun s' hm => ?_)
    show wpAny _ A.in1 (ret Value.none) _ _ s'
    have e : ns.take i = ns := List.take_of_length_le (by omega)
    rw [e] at hS
    exact wpAny_pure (hR s' c (hm.mono hsub) hc (hS.at fun o e => hm.heap S o hSw e))
  | succ k ih =>
    intro i s hk' hi hst ⟨c, hc, hS⟩ hR
    have hlt : i < n := by omega
    refine codeAny_builtin F.entry_set_update_loop ?_
    rw [Around.under_plainId F.plain_set_update_loop _]
    show wpAny _ A.in1 (pyNext (.ref I) >>= _) _ _ s
    refine wpAny_bind (W.item i s _ _ hlt hst fun v s' hP hst' hm => ?_)
    obtain ⟨z, t, hz, rfl⟩ := hval i v hP
    have hS' : SetRS w s'.heap S (fun j => decide (j ∈ ns.take i)) c := hS.at fun o e => hm.heap S o hSw e
    show wpAny _ A.in1 (holding [Value.str z t] (setAdd S (.str z t)) >>= _) _ _ s'
    refine wpAny_bind (wpAny_holding ?_)
    unfold setAdd
    refine wpAny_holding ?_
    refine wpAny_bind ((strKind P w).pyHash (k := z) (isStr_is _ _) ?_)
    refine setRS_add_hashed (s := { s' with toks := s'.toks + 1 }) hS' (by omega) fun h' hsb hS2 => ?_
    have hS3 : SetRS w h' S (fun j => decide (j ∈ ns.take (i + 1))) (if decide (z ∈ ns.take i) = true then c else c + 1) := hS2.congr fun j => by
      rw [List.take_add_one, hz]
      simp [List.mem_append]
    have hc3 : (if decide (z ∈ ns.take i) = true then c else c + 1) ≤ i + 1 := by
      split <;> omega
    refine wpAny_pure ⟨plainId_quiet F.plain_set_update_loop _, ih (i + 1) _ (by omega) hlt (W.frame _ s' _ _ hst' (Nat.le_succ _) fun b hb o e => ?_) ⟨_, hc3, hS3⟩ fun s'' c2 hm'' hc'' hS'' => ?_⟩
    · rw [hsb.2 b (fun h : b = S => hSf (by rw [← h]; exact hb))]; exact e
    · refine hR s'' c2 (Moved.trans W.gtrans ((hm.mono hsub).then_heap (Nat.le_succ _) fun b o hb e => ?_) hm'') hc'' hS''
      rw [hsb.2 b (fun h : b = S => hb (by rw [h]; exact List.mem_cons_self))]; exact e
end
section
variable {P : Program} {w : World} {A : Around} {E : Value → Shared → Prop} {s : Shared}
set_option maxHeartbeats 0 in
/-- set.__init__ of a list of texts, on a set just made -/
theorem init_lstS {l : Addr} {xs : Array Value} (ns : List Str) (hand : A.handled = none) (isl : s.heap.IsList l xs) (are : StrsAre xs.toList ns) (few : ns.length + 1 < scanBound) :
    codeAny (model P w) A (.call (.builtin "set.__init__") ⟨[.ref s.heap.objs.size, .ref l], []⟩)
      (wants (fun r s₂ => r = .none ∧ ∃ h' tk c, s₂ = { s with heap := h', toks := tk } ∧ SetRS w h' s.heap.objs.size (fun j => decide (j ∈ ns)) c ∧ c ≤ ns.length ∧ ∀ b o, s.heap.get? b = some o → h'.get? b = some o) E) (afterSet w s) := by
  have at0 : (afterSet w s).heap.get? s.heap.objs.size = some (newSet w) := Heap.get?_push_size _ rfl
  have cnt : xs.size = ns.length := by rw [← strsAre_len are, Array.length_toList]
  refine codeAny_call_builtin F.called_set.init.plain F.entry_set_init (check_set_init_1 ⟨_, at0, rfl⟩ ?_)
  obtain ⟨⟨c0, d0, dat, sl0⟩, lget, lc, nn, ld⟩ := isl
  obtain rfl : c0 = .type "list" := lc
  obtain rfl : dat = .seq xs nn := ld
  have lt : l < s.heap.objs.size := Heap.lt_size lget
  have lget1 : (afterSet w s).heap.get? l = some ⟨.type "list", d0, .seq xs nn, sl0⟩ := Heap.get?_push_of_some _ lget
  have isl1 : (afterSet w s).heap.IsList l xs := ⟨_, lget1, rfl, nn, rfl⟩
  have nosub1 := F.sub_list_set
  have nosub2 := F.sub_list_frozenset
  have nodic : (Value.type "list" == Value.type "dict") = false := by decide
  have sz : (afterSet w s).heap.objs.size = s.heap.objs.size + 1 := Heap.size_push ..
  unfold Builtin.«set.__init__» noKeywords Builtin.Frozenset.updateFrom
  generalize itr : pyIter = it
  wp_walk
  subst itr
  refine wpAny_pyIter_list isl1 (wpAny_bind (wpAny_runValue ?_))
  have ne1 : l ≠ (afterSet w s).heap.objs.size := by rw [sz]; exact Nat.ne_of_lt (Nat.lt_succ_of_lt lt)
  have apart : s.heap.objs.size ∉ [(afterSet w s).heap.objs.size, l] := fun h => by
    rcases List.mem_cons.mp h with h | h
    · rw [sz] at h; exact absurd h (Nat.ne_of_lt (Nat.lt_succ_self _))
    · exact absurd (List.mem_singleton.mp h) (Nat.ne_of_gt lt)
  have each : ∀ (i : Nat) (v : Value), xs[i]? = some v → ∃ k t, ns[i]? = some k ∧ v = .str k t := fun i v hv => strsAt are i v (by rw [Array.getElem?_toList]; exact hv)
  have hand3 : A.in1.in1.handled = none := by simp [hand]
  have at1 : ∀ o : PySem.Obj, ((afterSet w s).heap.push o).get? s.heap.objs.size = some (newSet w) := fun o => Heap.get?_push_of_some _ at0
  refine set_update_strs ((Walks.list hand3 _ l ne1 xs).toS) s.heap.objs.size apart ns cnt few each (xs.size - 0) 0 _ (by omega) (Nat.zero_le _) ?here ?start ?stop
  case here => exact ⟨⟨_, Heap.get?_push_size _ rfl, rfl, rfl⟩, (isl1.push _)⟩
  case start => exact ⟨0, Nat.le_refl 0, setRS_new_at (at1 _)⟩
  rintro ⟨h', g2, d', tk', os'⟩ c' mv le set
  obtain rfl : g2 = s.gens := mv.gens
  obtain rfl : d' = s.drawn := mv.drawn
  obtain rfl : os' = s.os := mv.os
  show wpAny _ _ _ _ _ _
  refine wpAny_pure ?_
  show wpAny _ _ (ret Value.none) _ _ _
  refine wpAny_pure ⟨rfl, h', tk', c', rfl, set, cnt ▸ le, fun b o e => mv.heap b o (fun h => ?_) (Heap.get?_push_of_some _ (Heap.get?_push_of_some _ e))⟩
  have := Heap.lt_size e
  rcases List.mem_cons.mp h with h | h
  · exact absurd h (Nat.ne_of_lt this)
  · have h := List.mem_singleton.mp h
    rw [sz] at h
    exact absurd h (Nat.ne_of_lt (Nat.lt_succ_of_lt this))
set_option maxHeartbeats 0 in
/-- set(list of texts) -/
theorem set_lstS {l : Addr} {xs : Array Value} (ns : List Str) {Q : Value → Shared → Prop} (hand : A.handled = none) (isl : s.heap.IsList l xs) (are : StrsAre xs.toList ns) (few : ns.length + 1 < scanBound)
    (h : ∀ (h' : Heap) (tk c : Nat), SetRS w h' s.heap.objs.size (fun j => decide (j ∈ ns)) c → c ≤ ns.length → (∀ b o, s.heap.get? b = some o → h'.get? b = some o) → Q (.ref s.heap.objs.size) { s with heap := h', toks := tk }) :
    wpAny (model P w) A (call (.type "set") [.ref l]) Q E s := by
  obtain ⟨c, tl, mro⟩ := F.called_set.mro
  have made := F.called_set.made; have sub := F.called_set.sub; have nt := F.called_set.notType; have cc := F.called_set.canCreate
  have tc := F.typeCall_set_1 (.ref l)
  refine wpAny_call (codeAny_of_tree ?_)
  show wpAny _ _ (callAny (.type "set") _) _ _ _
  refine wpAny_pure ⟨Code.quiet_builtin _ (by decide +kernel), codeAny_builtin F.entry_type_call ?_⟩
  rw [Around.under_plain (weight_type_call_type "set" [.ref l] []) rfl]
  repeat (any_goals (first | assumption | wp_step))
  have one := code_set_led1 (P := P) (w := w) (E := E) (A := A.in1) (s := s) (.ref l) (Q₁ := fun obj s₁ => obj = .ref s.heap.objs.size ∧ s₁ = afterSet w s) ⟨rfl, rfl⟩
  refine codeAny_mono one fun r s₁ hr => ?_
  match r, hr with
  | .error e, hr => exact hr
  | .ok .next, hr => exact hr.elim
  | .ok .brk, hr => exact hr.elim
  | .ok .cont, hr => exact hr.elim
  | .ok (.ret ob), hr =>
    obtain ⟨rfl, rfl⟩ := hr
    have isS : (afterSet w s).TypeIs (.ref s.heap.objs.size) "set" := ⟨_, Heap.get?_push_size _ rfl, rfl⟩
    have lk := F.called_set.init.lookup
    have bd := F.called_set.init.bind (.ref s.heap.objs.size)
    repeat (any_goals (first | assumption | wp_step))
    refine codeAny_mono (init_lstS (E := E) (A := A.in1) ns (by simpa using hand) isl are few) fun r2 s2 h2 => ?_
    match r2, h2 with
    | .error e, h2 => exact h2
    | .ok .next, h2 => exact h2.elim
    | .ok .brk, h2 => exact h2.elim
    | .ok .cont, h2 => exact h2.elim
    | .ok (.ret v), h2 =>
      obtain ⟨rfl, h', tk, c', rfl, a1, a2, a3⟩ := h2
      repeat (any_goals (first | assumption | wp_step))
      exact h _ _ _ a1 a2 a3
end


section
variable {P : Program} {w : World} {A : Around} {E : Value → Shared → Prop} {s : Shared} {a : Addr}
def rawS (v : Value) : Str := match v with | .str k _ => k | _ => ⟨#[]⟩
theorem strs_ofR : ∀ (l : List Value), (∀ v ∈ l, ∃ k tk, v = Value.str k tk) → StrsAre l (l.map rawS)
  | [], _ => .nil
  | v :: l, h => by
    obtain ⟨k, tk, rfl⟩ := h v List.mem_cons_self
    exact .cons k tk (strs_ofR l fun u hu => h u (List.mem_cons_of_mem _ hu))
theorem sorted_setS {S : Str → Bool} {n : Nat} {Q : Value → Shared → Prop} (R : SetRS w s.heap a S n) (hh : A.handled = none) (h64 : n < 64)
    (hQ : ∀ s' p (out : Array Value) (c : Nat) (ns : List Str), (∀ b o, s.heap.get? b = some o → s'.heap.get? b = some o) → s'.gens = s.gens → s'.os = s.os → s.heap.objs.size ≤ p →
      s'.heap.get? p = some (seqObj "list" out c) → StrsAre out.toList ns → PyProof.Rows.sortedS ns = true → ns.Nodup → (∀ k, k ∈ ns ↔ S k = true) → ns.length = n → Q (.ref p) s') :
    wpAny (model P w) A (call (.builtin "sorted") [.ref a]) Q E s := by
  obtain ⟨o, es, ep, t, ho, hex, hd, g, nd, hm, hb, hf, hn, hr, hl⟩ := R
  refine Calls.call_function_entry PyProof.Rows.kind_sorted PyProof.Rows.plain_sorted PyProof.Rows.entry_sorted (PyProof.Rows.args_sorted1 _) ?_
  unfold Builtin.«sorted»
  refine wpAny_bind (m := checkCount "sorted" 1 1 _) (wpAny_pure ?_)
  refine wpAny_bind (collect_set (A := A.in1) hh ⟨o, ho, hex.1, hd⟩ hf hb hr hl fun s1 vs k1 hz g1 o1 pm => ?_)
  have hvl : vs.length = n := by rw [pm.length_eq, List.length_map, Array.length_toList]; exact hn
  have hI : StrsAre vs (vs.map rawS) := strs_ofR vs fun v hv => by
    obtain ⟨e, he, q⟩ := List.mem_map.mp (pm.mem_iff.mp hv)
    obtain ⟨k, tk, h1, _⟩ := g e he
    exact ⟨k, tk, by rw [← q]; exact h1⟩
  have pk : (vs.map rawS).Perm (es.toList.map keyOfS) := by
    have q := pm.map rawS
    rw [List.map_map] at q
    exact q
  refine wpAny_bind (wpAny_newList ?_ (by rw [hvl, sizeLine_eq]; omega))
  have hoL : (s1.heap.push (seqObj "list" vs.toArray 0)).get? s1.heap.objs.size = some (seqObj "list" vs.toArray 0) := Heap.get?_push_size _ rfl
  refine wpAny_bind (wpAny_holding (wpAny_call_entry PyProof.Rows.slot_list_sort ⟨_, hoL, rfl⟩ PyProof.Rows.entry_list_sort (list_sort_treeK strKind_oneLt hoL hI.keysOf (fun v₁ v₂ rest e => keyKind_strs (by rw [← e]; exact hI)) (by rw [hvl]; exact h64) fun st' hp hs => ⟨_, rfl, ?_⟩) (PyProof.Rows.args_list_sort _)))
  obtain ⟨ns', a1, a2, a3⟩ := sorted_out_str hI hp hs
  obtain ⟨c, hc⟩ := PyProof.Rows.sortedHeap_at (vs := vs) (out := (arrOf st').map (·.2)) hoL
  have pn : ns'.Perm (es.toList.map keyOfS) := a2.trans pk
  refine wpAny_pure ⟨_, rfl, hQ _ s1.heap.objs.size ((arrOf st').map (·.2)) c ns' (fun b u e => ?_) g1 o1 hz hc a1 a3 (pn.nodup_iff.mpr nd) (fun k => by rw [pn.mem_iff, ← hm k]) ?_⟩
  · have q := k1 b u e
    have hlt := Heap.lt_size q
    show (PyProof.Rows.sortedHeap (s1.heap.push (seqObj "list" vs.toArray 0)) s1.heap.objs.size vs ((arrOf st').map (·.2))).get? b = some u
    rw [PyProof.Rows.sortedHeap_old (Nat.ne_of_lt hlt) (by rw [size_push']; exact Nat.lt_succ_of_lt hlt)]
    exact Heap.get?_push_of_some _ q
  · rw [pn.length_eq, List.length_map, Array.length_toList]; exact hn
end
theorem mem_dedupS (x : List Nat) : ∀ l : List (List Nat), x ∈ dedupS l ↔ x ∈ l
  | [] => Iff.rfl
  | y :: r => by
    have ih := mem_dedupS x r
    show (x ∈ if y ∈ dedupS r then dedupS r else y :: dedupS r) ↔ _
    by_cases h : y ∈ dedupS r
    · rw [if_pos h, ih, List.mem_cons]
      refine ⟨.inr, fun q => ?_⟩
      rcases q with rfl | q
      · exact (mem_dedupS x r).mp h
      · exact q
    · rw [if_neg h, List.mem_cons, List.mem_cons, ih]
theorem dedupS_nodup : ∀ l : List (List Nat), (dedupS l).Nodup
  | [] => List.Pairwise.nil
  | y :: r => by
    show (if y ∈ dedupS r then dedupS r else y :: dedupS r).Nodup
    by_cases h : y ∈ dedupS r
    · rw [if_pos h]; exact dedupS_nodup r
    · rw [if_neg h]; exact List.nodup_cons.mpr ⟨h, dedupS_nodup r⟩
section
variable {X : Cx} {N : Hp} {z : Ev} {a : Expr} {ea : E} {q q2 p2 pos : Pos}
def tSortSetS (K : PySem.W.Frag) (ta : TE) : TE := fun σ H Q => ta σ H fun x H1 => ∃ (l : Addr) (ns : List (List Nat)), x = V.ref l ∧ SqL K H1 l ((ns.map toStr).map V.str) ∧ ns.length ≤ 1000 ∧ (dedupS ns).length < 64 ∧ ∀ p, H1 p = none → Q (.ref p) (upd H1 p (.lst (((sortS (dedupS ns)).map toStr).map V.str)))
theorem pe_sortSetS {ta : TE} (hc : X.calm = true) (hg : Gl X "sorted") (hm : X.mg "sorted" = none) (hg2 : Gl X "set") (hm2 : X.mg "set" = none) (ha : PE X a ta) (na : starEach [a] X.env = (false, eval a X.env) :: starEach [] X.env)
    (ne : starEach [.Call (.Name "set" q2) [a] [] p2] X.env = (false, eval (.Call (.Name "set" q2) [a] [] p2) X.env) :: starEach [] X.env) :
    PE X (.Call (.Name "sorted" q) [.Call (.Name "set" q2) [a] [] p2] [] pos) (tSortSetS X.K ta) := by
  refine ⟨fun pins s σ H Q I h => ?_⟩
  refine Call_ (ld_blt I hg hm PyProof.Rows.boot_sorted ?_)
  refine PyProof.Rows.callWith_builtin1 (PyProof.Rows.args_cons ?_ ne) ne rfl
  refine Call_ (ld_blt I hg2 hm2 PyProof.Rows.boot_set ?_)
  refine PyProof.Rows.callWith_type1 (PyProof.Rows.args_cons (thn (ha.run pins s σ H _ I h) fun v s1 ⟨x, H1, I1, r1, q1⟩ => PyProof.Rows.args_nil ?_) na) na rfl
  obtain ⟨l, ns, rfl, hq, h1, h64, post⟩ := q1
  obtain rfl : v = Value.ref l := r1
  obtain ⟨its, r, pl, hz⟩ := I1.list hq
  refine set_lstS (ns.map toStr) (I1.ok.hd hc) pl.isList (by simpa using r.strs) (by rw [List.length_map]; unfold scanBound; omega) fun h' tk c R1 hcn k => PyProof.Rows.args_nil ?_
  have hperm : ∀ (l2 : List Str), l2.Nodup → (∀ j, j ∈ l2 ↔ decide (j ∈ ns.map toStr) = true) → l2.Perm ((dedupS ns).map toStr) := fun l2 d m => (List.perm_ext_iff_of_nodup d (List.Pairwise.map toStr (fun a b h e => h (toStr_inj e)) (dedupS_nodup ns))).mpr fun j => by
    rw [m j, decide_eq_true_eq, List.mem_map, List.mem_map]
    exact ⟨fun ⟨x, hx, e⟩ => ⟨x, (mem_dedupS x ns).mpr hx, e⟩, fun ⟨x, hx, e⟩ => ⟨x, (mem_dedupS x ns).mp hx, e⟩⟩
  have hcl : c < 64 := by
    obtain ⟨o, es, ep, t, ho, hex, hd, g, nd, hm, hb, hf, hn, hr, hl⟩ := R1
    have pe := hperm (es.toList.map keyOfS) nd fun j => (hm j).symm
    have := pe.length_eq
    rw [List.length_map, List.length_map, Array.length_toList] at this
    omega
  refine sorted_setS (s := { s1 with heap := h', toks := tk }) R1 (I1.ok.hd hc) hcl fun s2 p out cc ns' kk gg oo hp hget hint hpw hnd hmem hlen => ?_
  have kall : ∀ b u, s1.heap.get? b = some u → s2.heap.get? b = some u := fun b u e => kk b u (k b u e)
  have hsz : s1.heap.objs.size ≤ p := by
    obtain ⟨o, es, ep, t, ho, _⟩ := R1
    exact Nat.le_trans (Nat.le_of_lt (Heap.lt_size ho)) hp
  have e1 : ns' = (sortS (dedupS ns)).map toStr := sortS_of (hperm ns' hnd hmem) hpw
  have I2 : L2.Inv X pins σ H1 s2 := I1.call' (ch := []) oo (Un.kept kall) (I1.hok.kept kall) (by rw [gg]; exact I1.bare) fun _ z => nomatch z
  have fr := I1.hok.fresh hsz
  have new : ObjOk X.prog X.w (upd H1 p (.lst (ns'.map V.str))) s2.heap p (.lst (ns'.map V.str)) :=
    ⟨by rw [List.length_map, hlen]; exact Nat.le_trans (Nat.le_of_lt hcl) (by decide), out.toList, cc, vals_of_strs hint, by rw [Array.toArray_toList]; exact hget⟩
  have I3 : L2.Inv X pins σ (upd H1 p (.lst (ns'.map V.str))) s2 := I1.call' (ch := []) oo (Un.laid kall hsz fr) (I1.hok.laid kall hsz new) (by rw [gg]; exact I1.bare) fun _ z => nomatch z
  rw [e1] at I3
  exact ⟨.ref p, _, I3, rfl, post p fr⟩
theorem pv_ssetS (hc : X.calm = true) (hg : Gl X "sorted") (hm : X.mg "sorted" = none) (hg2 : Gl X "set") (hm2 : X.mg "set" = none) (ha : PE X a (tE X.K N z ea))
    (na : starEach [a] X.env = (false, eval a X.env) :: starEach [] X.env := by rfl) (ne : starEach [.Call (.Name "set" q2) [a] [] p2] X.env = (false, eval (.Call (.Name "set" q2) [a] [] p2) X.env) :: starEach [] X.env := by rfl) :
    PE X (.Call (.Name "sorted" q) [.Call (.Name "set" q2) [a] [] p2] [] pos) (tE X.K N z (.ssetS ea)) := by
  refine peImp (pe_sortSetS hc hg hm hg2 hm2 ha na ne) fun σ H Q h => ?_
  obtain ⟨p, env, μ, Po, rfl, sr, hw, post⟩ := h
  refine ⟨p, env, μ, _, rfl, sr, hw, fun k x env1 μ1 p1 v h1 sr1 st1 vr1 => ?_⟩
  obtain ⟨l, ns, rfl, hi, hl, h64, h1⟩ := h1
  obtain ⟨b, vs, rfl, rd, fl⟩ := vr1.an sr1
  obtain ⟨_, rfl⟩ := strs_an fl hi
  refine ⟨b, ns, rfl, .inl rd, hl, h64, fun c hc => ?_⟩
  have n := new_lst (K := X.K) hc (fzStrs (K := X.K) (p := p1) (sortS (dedupS ns)))
  exact post .fresh _ env1 μ1 _ _ h1 (sr1.ext n.1) (st1.trans n.1.step) (n.2.vr st1)
end
end Pv

set_option autoImplicit false
set_option linter.all false
set_option Elab.async false
set_option maxRecDepth 100000
namespace Pv
open PySem PySem.Spec PyProof.Rows L2
open PySem.W (minD AlikeAll min_list_data dataLt dataLt_ii readsAll_atA reads_keeps)

/-! ### min of a list of pairs of ints -/
abbrev pdP (p : Int × Int) : PyData := .tuple [.int p.1, .int p.2]
theorem minD_pairs (x : Int × Int) (xs : List (Int × Int)) : minD (pdP x) (xs.map pdP) = pdP (mnP x xs) := by
  unfold minD mnP
  rw [List.foldl_map]
  induction xs generalizing x with
  | nil => rfl
  | cons y r ih =>
    rw [List.foldl_cons, List.foldl_cons]
    have e : (if dataLt (pdP y) (pdP x) = true then pdP y else pdP x) = pdP (if ltP y x = true then y else x) := by
      rw [dataLt_ii]
      unfold ltP
      split <;> rfl
    rw [e]
    exact ih _
theorem alike_pairs (xs : List (Int × Int)) : AlikeAll (xs.map pdP) :=
  ⟨fun x hx y hy => by
    obtain ⟨a, _, rfl⟩ := List.mem_map.mp hx
    obtain ⟨b, _, rfl⟩ := List.mem_map.mp hy
    rfl, fun x hx => by
    obtain ⟨a, _, rfl⟩ := List.mem_map.mp hx
    exact fun e => nomatch e⟩
theorem depth_pairs : ∀ xs : List (Int × Int), PyData.depthAll (xs.map pdP) ≤ 4
  | [] => by show 0 ≤ 4; decide
  | x :: r => by
    have ih := depth_pairs r
    show max (pdP x).depth (PyData.depthAll (r.map pdP)) ≤ 4
    refine Nat.max_le.mpr ⟨?_, ih⟩
    show PyData.depth (.tuple [.int x.1, .int x.2]) ≤ 4
    simp [PyData.depth, PyData.depthAll]
theorem plain_pairs : ∀ (xs : List (Int × Int)) (n : Nat), plainL (xs.map pairD) (n + 1) = true
  | [], _ => rfl
  | x :: r, n => by
    show (plain (pairD x) (n + 1) && plainL (r.map pairD) (n + 1)) = true
    rw [plain_pairs r n]
    rfl
theorem toPy_pairs : ∀ xs : List (Int × Int), toPyL (xs.map pairD) = xs.map pdP
  | [] => rfl
  | x :: r => by
    show toPy (pairD x) :: toPyL (r.map pairD) = _
    rw [toPy_pairs r]
    rfl
theorem fzL_at {K : PySem.W.Frag} {p : Ph} : ∀ {ds : List D} {vs : List V} {i : Nat} {d : D}, FzL K p ds vs → ds[i]? = some d → ∃ v, vs[i]? = some v ∧ Fz K p d v
  | x :: r, vs, 0, d, h, e => by
    obtain ⟨v, ws, rfl, z, _⟩ := h
    cases e
    exact ⟨v, rfl, z⟩
  | x :: r, vs, i + 1, d, h, e => by
    obtain ⟨v, ws, rfl, _, f⟩ := h
    obtain ⟨u, e1, z⟩ := fzL_at (i := i) f e
    exact ⟨u, e1, z⟩
  | [], _, _, _, _, e => by cases e
theorem vals_rel : ∀ {vs : List V} {us : List Value} {i : Nat} {v : V} {u : Value}, Vals vs us → vs[i]? = some v → us[i]? = some u → RelV v u
  | _, _, 0, _, _, .cons r _, e1, e2 => by cases e1; cases e2; exact r
  | _, _, i + 1, _, _, .cons _ t, e1, e2 => vals_rel (i := i) t e1 e2
section
variable {X : Cx}
theorem cr_minP (hc : X.calm = true) (hu : X.A.units + 70 < cLine) : CallR X (.builtin "min") (rBlt X.K (bltP .minP)) := by
  intro pins s σ H xs us Q I r h
  obtain ⟨p, ds, R, rfl, lab, al, hb, q⟩ := h
  change minPP ds R at hb
  unfold minPP at hb
  split at hb
  · obtain ⟨v, _, rfl, ⟨a, vs, rfl, z, f⟩, rfl⟩ := al
    obtain ⟨p0, ps, rfl, hb⟩ := hb
    obtain ⟨its, rv, hl, hz⟩ := I.list (.inl z)
    have dp := dpL_of _ vs 59 f (plain_pairs _ 58)
    rw [toPy_pairs] at dp
    obtain ⟨as, hr⟩ := Dp.readsAll I _ vs its dp rv
    rw [Vals.ref1 r]
    have hr : ReadsAll s.heap its.toArray.toList (pdP p0 :: ps.map pdP) as := by rw [List.toList_toArray]; exact hr
    have hd := depth_pairs (p0 :: ps)
    refine min_list_data (I.ok.hd hc) hl.isList hr (alike_pairs (p0 :: ps)) (by
      have : PyData.depthAll (pdP p0 :: ps.map pdP) ≤ 4 := hd
      omega) fun i v h' tk bs hv hread hk => ?_
    rw [minD_pairs] at hread
    have hv : its[i]? = some v := by simpa using hv
    obtain ⟨bs2, hr2, hlt, _, _⟩ := readsAll_atA hr i v (by simpa using hv)
    have hlt : i < (p0 :: ps).length := by simpa using hlt
    have hg : (pdP p0 :: ps.map pdP).getD i .none = pdP (p0 :: ps)[i] := by
      show ((p0 :: ps).map pdP).getD i .none = _
      rw [List.getD_eq_getElem?_getD, List.getElem?_map, List.getElem?_eq_getElem hlt]
      rfl
    rw [hg] at hr2
    have same : pdP (p0 :: ps)[i] = pdP (mnP p0 ps) := by
      have hk2 := reads_keeps hk hr2
      have e1 := PySem.SeqAt.readOf_plain (by rfl) hk2
      have e2 := PySem.SeqAt.readOf_plain (by rfl) hread
      rw [← e1, ← e2]
    have same : (p0 :: ps)[i] = mnP p0 ps := by
      injection same with e
      injection e with e1 e
      injection e with e2 _
      injection e1 with e1
      injection e2 with e2
      exact Prod.ext e1 e2
    obtain ⟨w, hw, fz⟩ := fzL_at (i := i) (d := pairD (p0 :: ps)[i]) f (by rw [List.getElem?_map, List.getElem?_eq_getElem hlt]; rfl)
    have rel := vals_rel rv hw hv
    rw [same] at fz
    exact ⟨w, p.H, I.kept (t' := tk) hk, rel, q _ p w hb .refl fz⟩
  · exact hb.elim
end
end Pv

set_option autoImplicit false
set_option linter.all false
set_option Elab.async false
set_option maxRecDepth 100000
namespace Pv
open PySem PySem.Spec PyProof.Rows L2
open PySem.W

/-! ### sorted of a list of pairs of ints -/
theorem each_pairs {K : PySem.W.Frag} {p : Ph} : ∀ {ps : List (Int × Int)} {vs : List V} {us : List Value}, FzL K p (ps.map pairD) vs → Vals vs us → EachIs (fun u b => ∃ w, RelV w u ∧ Fz K p (pairD b) w) us ps
  | [], vs, us, f, r => by
    obtain rfl : vs = [] := f
    cases r
    exact .nil
  | b :: ps, vs, us, f, r => by
    obtain ⟨w, ws, rfl, z, f⟩ := f
    cases r with
    | cons r t => exact .cons ⟨w, r, z⟩ (each_pairs f t)
theorem pairs_each {K : PySem.W.Frag} {p : Ph} : ∀ {ps : List (Int × Int)} {us : List Value}, EachIs (fun u b => ∃ w, RelV w u ∧ Fz K p (pairD b) w) us ps → ∃ vs, FzL K p (ps.map pairD) vs ∧ Vals vs us ∧ vs.length = ps.length
  | _, _, .nil => ⟨[], rfl, .nil, rfl⟩
  | _, _, .cons (b := b) ⟨w, r, z⟩ t => by
    obtain ⟨vs, f, v, e⟩ := pairs_each t
    exact ⟨w :: vs, ⟨w, vs, rfl, z, f⟩, .cons r v, by rw [List.length_cons, List.length_cons, e]⟩
section
variable {X : Cx}
theorem cr_sortP (hu : X.A.units + 70 < cLine) : CallR X (.builtin "sorted") (rBlt X.K (bltP .sortP)) := by
  intro pins s σ H xs us Q I r h
  obtain ⟨p, ds, R, rfl, lab, al, hb, q⟩ := h
  change sortPP ds R at hb
  unfold sortPP at hb
  split at hb
  · obtain ⟨v, _, rfl, ⟨a, vs, rfl, z, f⟩, rfl⟩ := al
    obtain ⟨ps, rfl, hb⟩ := hb
    obtain ⟨its, rv, hl, hz⟩ := I.list (.inl z)
    have dp := dpL_of _ vs 59 f (plain_pairs _ 58)
    rw [toPy_pairs] at dp
    obtain ⟨as, hr⟩ := Dp.readsAll I _ vs its dp rv
    rw [Vals.ref1 r]
    have ee := each_pairs f rv
    have hlen : ps.length ≤ sizeLine := by rw [← ee.length, ← rv.length]; exact hz
    refine sorted_data hl.isList ee (readsAll_each pdP hr) (AllAlike.of fun _ _ => rfl) (Sortable.tuples fun b => ⟨_, _, rfl⟩) hlen (fun b _ => ?_) fun out h1 h2 => ?_
    · show X.A.units + 2 + (pdP b).depth < cLine
      have : (pdP b).depth ≤ 4 := by
        show PyData.depth (.tuple [.int b.1, .int b.2]) ≤ 4
        simp [PyData.depth, PyData.depthAll]
      omega
    obtain ⟨ws, fz, vv, e⟩ := pairs_each h2
    obtain ⟨ep, he'⟩ := PyProof.Rows.sortedAll_at s.heap its out.toArray
    have hp : (ps.mergeSort (dataLe false pdP)).Perm ps := List.mergeSort_perm _ _
    have hpw : (ps.mergeSort (dataLe false pdP)).Pairwise (fun a b => ltP b a = false) := by
      have le : dataLe false pdP = fun p q : Int × Int => decide (p.1 < q.1 ∨ (p.1 = q.1 ∧ p.2 ≤ q.2)) := dataLe_ii (β := Int × Int) (·.1) (·.2)
      rw [le]
      refine (List.pairwise_mergeSort (le := fun p q : Int × Int => decide (p.1 < q.1 ∨ (p.1 = q.1 ∧ p.2 ≤ q.2))) (fun a b c h1 h2 => ?_) (fun a b => ?_) ps).imp fun {a b} h => ?_
      · simp only [decide_eq_true_eq] at h1 h2 ⊢; omega
      · simp only [Bool.or_eq_true, decide_eq_true_eq]; omega
      · unfold ltP
        simp only [decide_eq_true_eq] at h
        rw [decide_eq_false_iff_not]; omega
    have hz' : ws.length ≤ sizeLine := by rw [e, hp.length_eq]; exact hlen
    have hc := I.hok.fresh (Nat.le_succ s.heap.objs.size)
    have n := new_lst hc fz
    exact ⟨.ref _, upd p.H (s.heap.objs.size + 1) (.lst ws), I.laid (t' := s.toks) (fun _ _ => PyProof.Rows.sortedAll_old) (Nat.le_succ _) ⟨hz', out, by simpa using ep, vv, he'⟩, rfl, q _ _ _ (hb _ hp hpw) n.1 n.2⟩
  · exact hb.elim
end
end Pv

set_option autoImplicit false
set_option linter.all false
set_option Elab.async false
set_option maxRecDepth 100000
namespace Pv
open PySem PySem.Spec PyProof.Rows L2
open PySem.W

/-! ### xs[::way] of a list, the way 1 or -1 -/
def tStepL (K : PySem.W.Frag) (te : TE) (th : TO) : TE := fun σ H Q => te σ H fun x H1 => th σ H1 fun o H2 => ∃ a xs, x = .ref a ∧ SqL K H2 a xs ∧ ((o = some 1 ∧ ∀ p, H2 p = none → Q (.ref p) (upd H2 p (.lst xs))) ∨ (o = some (-1) ∧ ∀ p, H2 p = none → Q (.ref p) (upd H2 p (.lst xs.reverse))))
theorem pick_one (items : Array Value) : slicePick items none none (some 1) = items := by
  rw [show slicePick items none none (some 1) = slicePick items none none none from rfl, slicePick_all]
section
variable {X : Cx} {N : Hp} {z : Ev} {e st : Expr} {te : TE} {th : TO} {p3 pos : Pos} {ea est : E}
theorem pe_stepL (he : PE X e te) (hst : PO X (some st) th) : PE X (.Subscript e (.Slice none none (some st) p3) pos) (tStepL X.K te th) := by
  refine ⟨fun pins s σ H Q I h => ?_⟩
  refine Subscript_ (thn (he.run pins s σ H _ I h) fun v s1 ⟨x, H1, I1, r1, q1⟩ => ?_)
  refine wpAny_Slice (thn (po_none.run pins s1 σ H1 (fun o H2 => o = none ∧ H2 = H1) I1 ⟨rfl, rfl⟩) fun vl s2 ⟨l, H2, I2, pl, el, e2⟩ => ?_)
  subst el e2
  refine thn (po_none.run pins s2 σ H2 (fun o H3 => o = none ∧ H3 = H2) I2 ⟨rfl, rfl⟩) fun vu s3 ⟨u, H3, I3, pu, eu, e3⟩ => ?_
  subst eu e3
  refine thn (hst.run pins s3 σ H3 _ I3 q1) fun vs s4 ⟨o, H4, I4, ps, q4⟩ => ?_
  obtain ⟨a, xs, ex, hx, q⟩ := q4
  subst ex
  cases r1
  have I5 : Inv X pins σ H4 { s4 with heap := s4.heap.push { cls := .type "slice", data := .fields #[vl, vu, vs] } } := I4.kept (t' := s4.toks) fun b ob q => Heap.get?_push_of_some _ q
  obtain ⟨its, r, ht, hz⟩ := I5.list hx
  have hlen := r.length
  show wpAny (model X.prog X.w) X.A (subscriptTail e (.Slice none none (some st) p3) (.ref a) (.ref s4.heap.objs.size)) (EP X pins σ Q) X.xe { s4 with heap := s4.heap.push { cls := .type "slice", data := .fields #[vl, vu, vs] } }
  refine tail_any (ops := [.ref a, .ref s4.heap.objs.size]) ht.isList.typeIs (PySem.slot_list_getitem.lookup) ?_ (by with_unfolding_all rfl)
  rcases q with ⟨rfl, q⟩ | ⟨rfl, q⟩
  · refine wpAny_getItem_list_slice ht.isList (Heap.IsSliceOf.new _ vl vu vs) pl pu ps (by decide) ?_ (by rw [List.size_toArray]; omega)
    rw [pick_one]
    refine ⟨.ref _, _, I5.laid (t' := s4.toks) (o := .lst xs) (fun b ob q => Heap.get?_push_of_some _ q) (Nat.le_refl _) ?_, rfl, q _ (I5.hok.fresh (Nat.le_refl _))⟩
    exact ⟨hz, _, 0, r, Heap.get?_push_size _ rfl⟩
  · refine wpAny_getItem_list_slice ht.isList (Heap.IsSliceOf.new _ vl vu vs) pl pu ps (by decide) ?_ (by rw [List.size_toArray]; omega)
    rw [PySem.W.krv_pick]
    refine ⟨.ref _, _, I5.laid (t' := s4.toks) (o := .lst xs.reverse) (fun b ob q => Heap.get?_push_of_some _ q) (Nat.le_refl _) ?_, rfl, q _ (I5.hok.fresh (Nat.le_refl _))⟩
    exact ⟨by rw [List.length_reverse]; exact hz, _, 0, r.reverse, Heap.get?_push_size _ rfl⟩
theorem pv_stepS (ha : PE X e (tE X.K N z ea)) (hs : PE X st (tE X.K N z est)) : PE X (.Subscript e (.Slice none none (some st) p3) pos) (tE X.K N z (.stepS ea est)) := by
  refine peImp (pe_stepL ha (pvo_some hs)) fun σ H Q h => ?_
  obtain ⟨p, env, μ, Po, rfl, sr, hw, post⟩ := h
  refine ⟨p, env, μ, _, rfl, sr, hw, fun k x env1 μ1 p1 v h1 sr1 st1 vr1 => ?_⟩
  refine ⟨p1, env1, μ1, fun o env' μ' => match o with
    | some y => kept k env1 env' μ1 μ' ∧ ∃ l i, (x = .lst l ∧ y = .int i) ∧ ((i = 1 ∧ Po .fresh (.lst l) env' μ') ∨ (i = -1 ∧ Po .fresh (.lst l.reverse) env' μ'))
    | none => False, rfl, sr1, h1, fun o env2 μ2 p2 h2 sr2 st2 => ?_⟩
  cases o with
  | none => exact h2.elim
  | some y =>
    obtain ⟨kp, l, i, ⟨rfl, rfl⟩, h2⟩ := h2
    obtain ⟨a, vs, rfl, r, f⟩ := vr1.later st2 sr2 kp
    refine ⟨some i, rfl, a, vs, rfl, .inl r, ?_⟩
    rcases h2 with ⟨rfl, q⟩ | ⟨rfl, q⟩
    · refine .inl ⟨rfl, fun c hc => ?_⟩
      have n := new_lst hc f
      exact post _ _ env2 μ2 _ _ q (sr2.ext n.1) (st1.trans (st2.trans n.1.step)) (n.2.vr (st1.trans st2))
    · refine .inr ⟨rfl, fun c hc => ?_⟩
      have n := new_lst hc f.rev
      exact post _ _ env2 μ2 _ _ q (sr2.ext n.1) (st1.trans (st2.trans n.1.step)) (n.2.vr (st1.trans st2))
end
end Pv

set_option autoImplicit false
set_option linter.all false
set_option Elab.async false
set_option maxRecDepth 100000
namespace Pv
open PySem PySem.Spec PyProof.Rows L2
open PySem.W

/-! ### a dict that nothing changes is locked while it is walked -/
structure Lk (p p' : Ph) : Prop where
  th : ∀ (n : Nat) (a : Addr), p.θ[n]? = some a → p'.θ[n]? = some a
  tl : p'.θ.length = p.θ.length
  W : p'.W = p.W
  lst : ∀ a vs, p.H a = some (.lst vs) → p'.H a = some (.lst vs)
  rd : ∀ a u, (∀ o x, u ≠ .frz o x) → Rd p.H a u → Rd p'.H a u
  own : ∀ a u, p.H a = some u → p.W a ≠ none → p'.H a = some u
  dom : ∀ a, p.H a ≠ none → p'.H a ≠ none
section
variable {K : PySem.W.Frag} {p p' : Ph} {o : Own} {N : Hp} {env : Env} {μ : Store} {σ : L2.St}
mutual
theorem Fz.lk (s : Lk p p') : ∀ (d : D) (v : V), Fz K p d v → Fz K p' d v
  | .non, v, h => h
  | .bl b, v, h => h
  | .int i, v, h => h
  | .str s, v, h => h
  | .tup l, v, h => by
    obtain ⟨a, vs, e, z, r⟩ := h
    exact ⟨a, vs, e, z.imp id fun ⟨w, h⟩ => ⟨by rw [s.W]; exact w, s.rd _ _ (fun _ _ e => nomatch e) h⟩, FzL.lk s l vs r⟩
  | .lst l, v, h => by
    obtain ⟨a, vs, e, ⟨w, h⟩, r⟩ := h
    exact ⟨a, vs, e, ⟨by rw [s.W]; exact w, s.lst a _ h⟩, FzL.lk s l vs r⟩
  | .dic l, v, h => by
    obtain ⟨a, vs, e, ⟨w, h⟩, r⟩ := h
    exact ⟨a, vs, e, ⟨by rw [s.W]; exact w, s.rd _ _ (fun _ _ e => nomatch e) h⟩, FzKV.lk s l vs r⟩
  | .ref n, v, h => by
    obtain ⟨a, e, r⟩ := h
    exact ⟨a, s.th n a e, r⟩
  | .rep d, v, h => h
  | .fn _, v, h => h
theorem FzL.lk (s : Lk p p') : ∀ (d : List D) (v : List V), FzL K p d v → FzL K p' d v
  | [], v, h => h
  | d :: r, v, h => by
    obtain ⟨x, ws, e, z, t⟩ := h
    exact ⟨x, ws, e, Fz.lk s d x z, FzL.lk s r ws t⟩
theorem FzKV.lk (s : Lk p p') : ∀ (d : List (D × D)) (v : List (Key × V)), FzKV K p d v → FzKV K p' d v
  | [], v, h => h
  | (k, d) :: r, v, h => by
    obtain ⟨q, x, ws, e, kk, z, t⟩ := h
    exact ⟨q, x, ws, e, kk, Fz.lk s d x z, FzKV.lk s r ws t⟩
end
theorem Ow.lk (s : Lk p p') : ∀ {d : D} {v : V}, Ow K p o N d v → Ow K p' o N d v
  | .lst l, v, h => by
    obtain ⟨a, vs, e, ⟨w, h, z⟩, r⟩ := h
    exact ⟨a, vs, e, ⟨by rw [s.W]; exact w, s.own a _ h (by rw [w]; exact fun e => nomatch e), z⟩, FzL.lk s l vs r⟩
  | .dic l, v, h => by
    obtain ⟨a, vs, e, ⟨w, h, z⟩, r⟩ := h
    exact ⟨a, vs, e, ⟨by rw [s.W]; exact w, s.own a _ h (by rw [w]; exact fun e => nomatch e), z⟩, FzKV.lk s l vs r⟩
  | .non, v, h => h
  | .bl b, v, h => h
  | .int i, v, h => h
  | .str s, v, h => h
  | .tup l, v, h => Fz.lk s _ _ h
  | .ref n, v, h => Fz.lk (K := K) s (.ref n) v h
  | .rep d, v, h => h
  | .fn _, v, h => h
theorem Ct.lk (s : Lk p p') : ∀ {d : D} {v : V}, Ct K p d v → Ct K p' d v
  | .lst l, v, h => by
    obtain ⟨a, vs, e, ⟨w, h⟩, r⟩ := h
    exact ⟨a, vs, e, ⟨by rw [s.W]; exact w, s.rd _ _ (fun _ _ e => nomatch e) h⟩, FzL.lk s l vs r⟩
  | .dic l, v, h => by
    obtain ⟨a, vs, e, ⟨w, h⟩, r⟩ := h
    exact ⟨a, vs, e, ⟨by rw [s.W]; exact w, s.rd _ _ (fun _ _ e => nomatch e) h⟩, FzKV.lk s l vs r⟩
  | .non, v, h => h
  | .bl b, v, h => h
  | .int i, v, h => h
  | .str s, v, h => h
  | .tup l, v, h => Fz.lk s _ _ h
  | .ref n, v, h => Fz.lk (K := K) s (.ref n) v h
  | .rep d, v, h => h
  | .fn _, v, h => h
theorem VS.lk (s : Lk p p') {i l : Nat} {d : D} {v : V} (h : VS K N p i l d v) : VS K N p' i l d v := by
  match l, h with
  | 0, h => exact Fz.lk s _ _ h
  | 1, h => exact Ow.lk (o := .slot i) s h
  | l + 2, h => exact Ct.lk s h
theorem FsR.lk {n : Nat} (s : Lk p p') : ∀ {fs : List (List Nat × Nat × D)} {ps : List (Key × V)}, FsR K p n fs ps → FsR K p' n fs ps
  | [], ps, h => h
  | (f, l, d) :: r, ps, h => by
    obtain ⟨v, qs, e1, z, t⟩ := h
    refine ⟨v, qs, e1, ?_, FsR.lk s t⟩
    cases l with
    | zero => exact Fz.lk s _ _ z
    | succ l => exact Ow.lk s z
theorem SR.lk (sr : SR K N p env μ σ) (s : Lk p p') : SR K N p' env μ σ := by
  refine ⟨sr.len, fun i l d e => ?_, s.tl.trans sr.st, fun n ob e => ?_, fun a o e => ?_, fun a e => s.dom a (sr.dom a e)⟩
  · obtain ⟨v, e1, z⟩ := sr.slot i l d e
    exact ⟨v, e1, z.lk s⟩
  · obtain ⟨a, e1, h1, h2, h3, ps, h4, h5⟩ := sr.obj n ob e
    exact ⟨a, s.th n a e1, h1, by rw [s.W]; exact h2, h3, ps, s.own a _ h4 (by rw [h2]; exact fun e => nomatch e), h5.lk s⟩
  · rw [s.W] at e
    obtain ⟨u, h1, m⟩ := sr.lab a o e
    exact ⟨u, s.own a _ h1 (by rw [e]; exact fun e => nomatch e), m⟩
theorem lk_on {a : Addr} {ps : List (Key × V)} {od : PySem.Obj} (h : p.H a = some (.dK ps)) (w : p.W a = none) : Lk p ⟨p.θ, p.W, upd p.H a (.frz od (.dK ps))⟩ := by
  refine ⟨fun _ _ e => e, rfl, rfl, fun b vs e => ?_, fun b u hu r => ?_, fun b u e n => ?_, fun b e => ?_⟩
  · have ne : b ≠ a := fun q => by rw [q, h] at e; cases e
    exact (upd_ne ne).trans e
  · by_cases q : b = a
    · subst q
      rcases r with r | ⟨o, r⟩
      · rw [h] at r; cases r
        exact .inr ⟨od, upd_same⟩
      · rw [h] at r; cases r
    · rcases r with r | ⟨o, r⟩
      · exact .inl ((upd_ne q).trans r)
      · exact .inr ⟨o, (upd_ne q).trans r⟩
  · have ne : b ≠ a := fun q => n (by rw [q]; exact w)
    exact (upd_ne ne).trans e
  · by_cases q : b = a
    · subst q; show upd p.H b _ b ≠ none; rw [upd_same]; exact fun z => nomatch z
    · show upd p.H a _ b ≠ none
      rw [upd_ne q]; exact e
theorem lk_off {a : Addr} {ps : List (Key × V)} {od : PySem.Obj} (h : p.H a = some (.frz od (.dK ps))) (w : p.W a = none) : Lk p ⟨p.θ, p.W, upd p.H a (.dK ps)⟩ := by
  refine ⟨fun _ _ e => e, rfl, rfl, fun b vs e => ?_, fun b u hu r => ?_, fun b u e n => ?_, fun b e => ?_⟩
  · have ne : b ≠ a := fun q => by rw [q, h] at e; cases e
    exact (upd_ne ne).trans e
  · by_cases q : b = a
    · subst q
      rcases r with r | ⟨o, r⟩
      · rw [h] at r; cases r
        exact absurd rfl (hu _ _)
      · rw [h] at r; cases r
        exact .inl upd_same
    · rcases r with r | ⟨o, r⟩
      · exact .inl ((upd_ne q).trans r)
      · exact .inr ⟨o, (upd_ne q).trans r⟩
  · have ne : b ≠ a := fun q => n (by rw [q]; exact w)
    exact (upd_ne ne).trans e
  · by_cases q : b = a
    · subst q; show upd p.H b _ b ≠ none; rw [upd_same]; exact fun z => nomatch z
    · show upd p.H a _ b ≠ none
      rw [upd_ne q]; exact e
theorem kv_at : ∀ {kvs : List (D × D)} {ps : List (Key × V)}, FzKV K p kvs ps → ps.length = kvs.length ∧ ∀ (i : Nat) (q : D × D), kvs[i]? = some q → ∃ k v, ps[i]? = some (k, v) ∧ Fz K p q.1 (kV k) ∧ Fz K p q.2 v
  | [], ps, h => by
    obtain rfl : ps = [] := h
    exact ⟨rfl, fun i q e => by simp at e⟩
  | (k, d) :: r, ps, h => by
    obtain ⟨q, x, ws, rfl, kk, z, t⟩ := h
    obtain ⟨e1, e2⟩ := kv_at t
    refine ⟨by rw [List.length_cons, List.length_cons, e1], fun i y e => ?_⟩
    cases i with
    | zero =>
      obtain rfl : (k, d) = y := Option.some.inj e
      refine ⟨q, x, rfl, ?_, z⟩
      cases k <;> simp only [keyV, reduceCtorEq, Option.some.injEq] at kk
      · subst kk; rfl
      · subst kk; rfl
    | succ i => exact e2 i y (by simpa using e)
/-- the keys of a locked dict are walked -/
theorem wk_keys {a : Addr} {kvs : List (D × D)} {ps : List (Key × V)} {od : PySem.Obj} (w : p.W a = none) (h : p.H a = some (.frz od (.dK ps))) (f : FzKV K p kvs ps) : Wk K (Itk a od ps) p (kvs.map (·.1)) := fun i q s => by
  obtain ⟨e1, e2⟩ := s.keep a _ h (by rw [w]; rfl)
  obtain ⟨l1, l2⟩ := kv_at (FzKV.le s.le _ _ f)
  refine ⟨fun hl => ⟨e1, by rw [l1]; simpa using hl⟩, fun d hd => ?_⟩
  rw [List.getElem?_map] at hd
  cases hk : kvs[i]? with
  | none => rw [hk] at hd; cases hd
  | some y =>
    rw [hk] at hd
    obtain rfl : y.1 = d := Option.some.inj hd
    obtain ⟨k, v, h1, h2, h3⟩ := l2 i y hk
    refine ⟨⟨e1, (List.getElem?_eq_some_iff.mp h1).1⟩, fun x H' hy => ?_⟩
    obtain ⟨rfl, k', v', h4, rfl⟩ := hy
    rw [h1] at h4; cases h4
    exact ⟨q, rfl, .refl, h2⟩
end
/-- what a list comprehension makes, its walk begun -/
theorem lc_tail {K : PySem.W.Frag} {z : Ev} {conds : List E} {ea : E} {t : T} {σ : L2.St} {N : Hp} {Q : VK} {own : List Nat} {p p1 : Ph} {env0 : Env} {μ0 : Store} {ds : List D} {J : It} {Po : Post} (hv : ∀ v ∈ varsT t, v ∈ own)
    (sr0 : SR K N p1 env0 μ0 σ) (st0 : Step p p1) (wk : Wk K J p1 ds) (hout : outOk env0 own = true)
    (h0 : compLoop (fun x env1 μ1 K => giveT t .fz x env1 fun env2 => wpC z.C z.G (fun _ _ _ => False) conds env2 μ1 fun c env3 μ3 =>
        if c = true then wpE z.C z.G (fun _ _ _ => False) ea env3 μ3 fun kd d env4 μ4 => esc kd env4 fun env5 => K (some d) (wipeE env5 own) μ4
        else K none (wipeE env3 own) μ3) ds [] (wipeE env0 own) μ0 fun acc env' μ' => Po .fresh (.lst acc) (back env0 env' own) μ')
    (post : ∀ d env' μ' p' v, Po .fresh d env' μ' → SR K N p' env' μ' σ → Step p1 p' → VR K p p' env' μ' σ .fresh d v → Q v p'.H) :
    ∀ L, p1.H L = none → ∃ W : Nat → Nat → Hp → Prop, (∃ m, W 0 m (upd p1.H L (.lst []))) ∧ ∀ i m H, W i m H →
      (J.stop i H ∧ Q (.ref L) H) ∨ (J.go i H ∧ ∃ Nx : Hp → Prop, (∀ H', Nx H' → ∃ m', m' < m ∧ W (i + 1) m' H') ∧ ∀ x H', J.yld i H x H' → gT K N t x (wipe σ own) H' fun σ2 H2 => wipe σ2 own = wipe σ own ∧ tC K N ⟨z.C, z.G, noX⟩ conds σ2 H2 fun b H3 =>
        if b = true then tE K N ⟨z.C, z.G, noX⟩ ea σ2 H3 fun y H4 => ∃ acc, H4 L = some (.lst acc) ∧ acc.length < sizeLine ∧ Nx (upd H4 L (.lst (acc ++ [y]))) else Nx H3) := by
  intro L hL
  have n := new_lst (K := K) (p := p1) (ds := []) (vs := []) hL rfl
  have srB := (sr0.ext n.1).wipeB own
  refine ⟨fun i m H => ∃ q env μ acc as, q.H = H ∧ SR K N q env μ (L2.wipe σ own) ∧ Step p1 q ∧ (m = ds.length - i ∧ i ≤ ds.length) ∧ (q.W L = some .tmp ∧ q.H L = some (.lst as)) ∧ FzL K q acc as ∧
    compLoop (fun x env1 μ1 K => giveT t .fz x env1 fun env2 => wpC z.C z.G (fun _ _ _ => False) conds env2 μ1 fun c env3 μ3 =>
        if c = true then wpE z.C z.G (fun _ _ _ => False) ea env3 μ3 fun kd d env4 μ4 => esc kd env4 fun env5 => K (some d) (wipeE env5 own) μ4
        else K none (wipeE env3 own) μ3) (ds.drop i) acc env μ fun acc env' μ' => Po .fresh (.lst acc) (back env0 env' own) μ',
    ⟨_, _, wipeE env0 own, μ0, [], [], rfl, srB, n.1.step, ⟨rfl, Nat.zero_le _⟩, ⟨updW_same, upd_same⟩, rfl, h0⟩, ?_⟩
  rintro i m H1 ⟨p2, env1, μ1, acc, as, rfl, sr1, st1, ⟨rfl, hi⟩, ⟨wL, hL1⟩, fl, hw1⟩
  cases hd : ds.drop i with
  | nil =>
    have hl : ds.length ≤ i := by
      have := congrArg List.length hd
      simp at this
      omega
    rw [hd] at hw1
    refine .inl ⟨(wk i p2 st1).1 hl, post _ _ μ1 p2 _ hw1 (sr0.backB st1.le sr1 hout) st1 ⟨L, as, rfl, ⟨wL, hL1, ?_⟩, fl⟩⟩
    cases q : p.H L with
    | none => rfl
    | some u => exact absurd hL (st0.dom L (by rw [q]; exact fun z => nomatch z))
  | cons x rest =>
    obtain ⟨hx, hr⟩ := drop_cons hd
    have hlt : i < ds.length := (List.getElem?_eq_some_iff.mp hx).1
    rw [hd] at hw1
    obtain ⟨go, yl⟩ := (wk i p2 st1).2 x hx
    refine .inr ⟨go, _, fun H' h' => ⟨ds.length - (i + 1), by omega, h'⟩, fun y H' hy => ?_⟩
    obtain ⟨p3, rfl, ext, fz⟩ := yl y H' hy
    have sr3 := sr1.ext ext
    refine ⟨p3, p3, env1, μ1, .fz, x, _, rfl, sr3, .refl, sr3.dom, fz, hw1, fun env4 p4 σ4 h4 sr4 st4 _ _ bt => ⟨(wipe_but bt hv).trans wipe_wipe, p4, env4, μ1, _, rfl, sr4, h4, fun b env5 μ5 p5 h5 sr5 st5 => ?_⟩⟩
    have s25 := ext.step.trans (st4.trans st5)
    have srw : ∀ {q : Ph} {e : Env} {m : Store}, SR K N q e m σ4 → SR K N q (wipeE e own) m (L2.wipe σ own) := fun h => by
      have := h.wipeB own
      rw [(wipe_but bt hv).trans wipe_wipe] at this
      exact this
    cases b with
    | false =>
      simp only [Bool.false_eq_true, if_false] at h5 ⊢
      have k5 := s25.keep L _ hL1 (by rw [wL]; rfl)
      exact ⟨p5, wipeE env5 own, μ5, acc, as, rfl, srw sr5, st1.trans s25, ⟨trivial, hlt⟩, ⟨k5.2.trans wL, k5.1⟩, FzL.le s25.le _ _ fl, by rw [hr]; exact h5⟩
    | true =>
      simp only [if_true] at h5 ⊢
      refine ⟨p5, env5, μ5, _, rfl, sr5, h5, fun kd d env6 μ6 p6 w h6 sr6 st6 vr6 => ?_⟩
      obtain ⟨env7, p7, h7, hh, lo, sr7, st7, fz7⟩ := esc_ok sr6 st6 vr6 h6
      have s27 := s25.trans st7
      have k7 := s27.keep L _ hL1 (by rw [wL]; rfl)
      have w7 := k7.2.trans wL
      refine ⟨as, by rw [← hh]; exact k7.1, by rw [← fl.length]; exact h7.1, ?_⟩
      have pt := (srw sr7).putT (o := .lst (as ++ [w])) w7 trivial
      refine ⟨⟨p7.θ, p7.W, upd p7.H L (.lst (as ++ [w]))⟩, wipeE env7 own, μ6, acc ++ [d], as ++ [w], by rw [hh], pt.1, ⟨fun n a q => (st1.trans s27).th n a q, fun a o q w => ?_, fun a q => ?_⟩, ⟨trivial, hlt⟩, ⟨w7, upd_same⟩, FzL.le pt.2 _ _ (FzL.append (FzL.le s27.le _ _ fl) ⟨w, [], rfl, fz7, rfl⟩), by rw [hr]; exact h7.2⟩
      · have ne : a ≠ L := fun e => by rw [e, hL] at q; cases q
        have := (st1.trans s27).keep a o q w
        exact ⟨(upd_ne ne).trans this.1, this.2⟩
      · by_cases ne : a = L
        · subst ne; show upd p7.H a _ a ≠ none; rw [upd_same]; exact fun z => nomatch z
        · show upd p7.H L _ a ≠ none
          rw [upd_ne ne]; exact (st1.trans s27).dom a q
section
variable {X : Cx} {N : Hp} {z : Ev} {pos px : Pos} {tg elt : Expr} {ea : E} {t : T} {ifs : List Expr} {conds : List E}
theorem pe_or {e : Expr} {t : TE} (h : PE X e t) : PE X e (fun σ H Q => t σ H Q ∨ tLockE t σ H Q) := ⟨fun pins s σ H Q I q => q.elim (h.run pins s σ H Q I) ((pe_lock h).run pins s σ H Q I)⟩
theorem Ow.low {K : PySem.W.Frag} {p : Ph} {o : Own} {N1 N2 : Hp} (hn : ∀ b, N1 b = none → N2 b = none) : ∀ {d : D} {v : V}, Ow K p o N1 d v → Ow K p o N2 d v
  | .lst l, v, h => by obtain ⟨a, vs, e, ⟨w, h, z⟩, r⟩ := h; exact ⟨a, vs, e, ⟨w, h, hn _ z⟩, r⟩
  | .dic l, v, h => by obtain ⟨a, vs, e, ⟨w, h, z⟩, r⟩ := h; exact ⟨a, vs, e, ⟨w, h, hn _ z⟩, r⟩
  | .non, v, h => h
  | .bl b, v, h => h
  | .int i, v, h => h
  | .str s, v, h => h
  | .tup l, v, h => h
  | .ref n, v, h => h
  | .rep d, v, h => h
  | .fn _, v, h => h
/-- a comprehension over the keys of a dict that a name holds -/
theorem pv_lcK {scope : Scope} {own : List (Str × Nat)} {i : Nat} {x : Str} (hc : X.calm = true) (hN : X.N.Nodup) (hx : X.N[i]? = some x) (hvis : Vis X.env.scope x) (ok : BlkOk X.N X.env.scope scope own) (hv : ∀ v ∈ varsT t, v ∈ own.map (·.2))
    (hg : ∀ (s : Shared) (H : Hp) (C : Addr) (cl : List (Str × Addr)) (fp : List Addr), PG (X.blk s H scope (compEnvC scope cl C X.env) fp) tg (gT X.K N t)) (ht : ∀ (s : Shared) (H : Hp) (C : Addr) (cl : List (Str × Addr)) (fp : List Addr), PTs (X.blk s H scope (compEnvC scope cl C X.env) fp) ifs (tC X.K N ⟨z.C, z.G, noX⟩ conds))
    (he : ∀ (s : Shared) (H : Hp) (C : Addr) (cl : List (Str × Addr)) (fp : List Addr), PE (X.blk s H scope (compEnvC scope cl C X.env) fp) elt (tE X.K N ⟨z.C, z.G, noX⟩ ea)) (hd : (x == ("__debug__" : Str)) = false := by decide) (hcd : (x == ("__classdict__" : Str)) = false := by decide) (hs : ∀ y, foldedSetIterable (.Name x px) X.env y = pure y := by intro _; rfl) :
    PE X (.ListComp elt [⟨tg, .Name x px, ifs, 0⟩] scope pos) (tE X.K N z (.comp (own.map (·.2)) ea t (.keys (.var i)) conds)) := by
  refine peImp (pe_or (pe_lc hc hN (pi_keys (pe_var hx hvis hd hcd)) ok hg ht he hs)) fun σ H Q h => ?_
  obtain ⟨p, env, μ, Po, rfl, sr, hw, post⟩ := h
  obtain ⟨l, d, e, kvs, rfl, hw⟩ := hw
  obtain ⟨v, ev, vs⟩ := sr.slot i l _ e
  have vr : VR X.K p p env μ σ (if l = 0 then .fz else .bor i) (.dic kvs) v := by
    cases l with
    | zero => exact vs
    | succ l => exact ⟨l, e, ev⟩
  obtain ⟨env1, p1, h1, eH, lo, sr1, st1, fz⟩ := esc_ok sr .refl vr hw
  obtain ⟨a, ps, rfl, ⟨w, r⟩, f⟩ := fz
  obtain ⟨hout, h0⟩ := h1
  rcases r with r | ⟨od, r⟩
  · refine .inr ⟨a, .dK ps, by rw [← eH]; exact r, trivial, fun od => ?_⟩
    have lk := lk_on (od := od) r w
    have sr2 := sr1.lk lk
    have f2 := FzKV.lk lk _ _ f
    rw [← eH]
    refine ⟨.ref a, ev, a, od, rfl, .inl ⟨ps, upd_same, ?_⟩⟩
    refine lc_tail (p := ⟨p1.θ, p1.W, upd p1.H a (.frz od (.dK ps))⟩) (p1 := ⟨p1.θ, p1.W, upd p1.H a (.frz od (.dK ps))⟩) (J := Itk a od ps) (Q := fun v H' => H' a = some (.frz od (.dK ps)) ∧ Q v (upd H' a (.dK ps))) hv sr2 .refl (wk_keys w upd_same f2) hout h0 fun d env' μ' p' v hp sr' st' vr' => ?_
    obtain ⟨k1, k2⟩ := st'.keep a _ upd_same (by show stay (p1.W a) = true; rw [w]; rfl)
    have w' : p'.W a = none := k2.trans w
    have lk2 := lk_off k1 w'
    refine ⟨k1, post .fresh d env' μ' _ v hp (sr'.lk lk2) ⟨fun n b q => st'.th n b (st1.th n b q), fun b o q s => ?_, fun b q => lk2.dom b (st'.dom b (lk.dom b (st1.dom b q)))⟩ (Ow.low (fun b q => ?_) (Ow.lk lk2 vr'))⟩
    · obtain ⟨y1, y2⟩ := st1.keep b o q s
      by_cases hb : b = a
      · subst hb
        rw [r] at y1
        exact ⟨by show upd p'.H b (.dK ps) b = some o; rw [upd_same]; exact y1, w'.trans (w.symm.trans y2)⟩
      · obtain ⟨z1, z2⟩ := st'.keep b o ((upd_ne hb).trans y1) (by show stay (p1.W b) = true; rw [y2]; exact s)
        exact ⟨(upd_ne hb).trans z1, z2.trans y2⟩
    · have hb : b ≠ a := fun z => by
        subst z
        have q : upd p1.H b (.frz od (.dK ps)) b = none := q
        rw [upd_same] at q; cases q
      have q : upd p1.H a (.frz od (.dK ps)) b = none := q
      rw [upd_ne hb] at q
      rw [← eH]; exact q
  · rw [← eH]
    refine .inl ⟨.ref a, ev, a, od, rfl, .inl ⟨ps, r, ?_⟩⟩
    refine lc_tail (p := p1) (p1 := p1) (J := Itk a od ps) (Q := Q) hv sr1 .refl (wk_keys w r f) hout h0 fun d env' μ' p' v hp sr' st' vr' => ?_
    exact post .fresh d env' μ' p' v hp sr' (st1.trans st') (Ow.low (fun b q => by rw [← eH]; exact q) vr')
end
end Pv

set_option autoImplicit false
set_option linter.all false
set_option Elab.async false
set_option maxRecDepth 100000
namespace Pv
open PySem PySem.Spec PyProof.Rows L2
open PySem.W
theorem keys_fz {K : PySem.W.Frag} {p : Ph} : ∀ {kvs : List (D × D)} {ps : List (Key × V)}, FzKV K p kvs ps → FzL K p (kvs.map (·.1)) (ps.map fun q => kV q.1)
  | [], ps, h => by
    obtain rfl : ps = [] := h
    exact rfl
  | (k, d) :: r, ps, h => by
    obtain ⟨q, x, ws, rfl, kk, z, t⟩ := h
    refine ⟨kV q, _, rfl, ?_, keys_fz t⟩
    cases k <;> simp only [keyV, reduceCtorEq, Option.some.injEq] at kk
    · subst kk; rfl
    · subst kk; rfl
theorem pairs_dp {K : PySem.W.Frag} {p : Ph} : ∀ {kvs : List (Int × D)} {vs : List V}, FzL K p (kvs.map fun q => .tup [.int q.1, q.2]) vs →
    ∃ (ps : List Addr) (qs : List (Key × V)), vs = ps.map V.ref ∧ Paired (fun b kv => SqT K p.H b [kV kv.1, kv.2]) ps qs ∧ FzKV K p (kvs.map fun q => (.int q.1, q.2)) qs ∧ qs.map (·.1) = kvs.map fun q => (.inl q.1 : Key)
  | [], vs, h => by
    obtain rfl : vs = [] := h
    exact ⟨[], [], rfl, .nil, rfl, rfl⟩
  | (k, d) :: r, vs, h => by
    obtain ⟨v, ws, rfl, ⟨b, us, rfl, z, f⟩, t⟩ := h
    obtain ⟨v1, w1, rfl, z1, v2, w2, rfl, z2, e⟩ := f
    obtain rfl : w2 = [] := e
    obtain rfl : v1 = .int k := z1
    obtain ⟨ps, qs, rfl, h1, h2, h3⟩ := pairs_dp t
    exact ⟨b :: ps, (.inl k, v2) :: qs, rfl, .cons (z.elim .inr fun z => .inl z.2) h1, ⟨.inl k, v2, qs, rfl, rfl, z2, h2⟩, by rw [List.map_cons, List.map_cons, h3]⟩
section
variable {X : Cx}
/-- list(d): its keys -/
theorem cr_listD (hc : X.calm = true) : CallR X (.type "list") (rBlt X.K (bltP .listD)) := by
  intro pins s σ H xs us Q I r h
  obtain ⟨p, ds, R, rfl, lab, al, hb, q⟩ := h
  change listDP ds R at hb
  unfold listDP at hb
  split at hb
  · obtain ⟨v, _, rfl, ⟨a, vs, rfl, z, f⟩, rfl⟩ := al
    refine call_listD hc pins s σ _ _ us Q I r ⟨a, vs, rfl, z, fun c hc => ?_⟩
    have n := new_lst hc (keys_fz f)
    exact q _ _ _ hb n.1 n.2
  · exact hb.elim
/-- dict(l), l a list of pairs whose first ones are unlike ints -/
theorem cr_dpairs (hc : X.calm = true) : CallR X (.type "dict") (rBlt X.K (bltP .dpairs)) := by
  intro pins s σ H xs us Q I r h
  obtain ⟨p, ds, R, rfl, lab, al, hb, q⟩ := h
  change dpairsP ds R at hb
  unfold dpairsP at hb
  split at hb
  · obtain ⟨v, _, rfl, ⟨a, vs, rfl, z, f⟩, rfl⟩ := al
    obtain ⟨kvs, rfl, nd, hb⟩ := hb
    obtain ⟨ps, qs, rfl, h1, h2, h3⟩ := pairs_dp f
    refine call_dictP hc pins s σ _ _ us Q I r ⟨a, ps, qs, rfl, .inl z, h1, fun c hc => ?_⟩
    have em : mergeK [] qs = qs := mergeK_nodup qs [] (by
      rw [List.nil_append, h3]
      exact List.pairwise_map.mpr ((List.pairwise_map.mp nd).imp fun h e => h (Sum.inl.inj e)))
    rw [em]
    have n := new_dic hc h2
    exact q _ _ _ hb n.1 n.2
  · exact hb.elim
theorem str_digit (i : Int) (h0 : 0 ≤ i) (h1 : i < 10) : (toString i : Str) = toStr [48 + i.toNat] := by
  have : i = 0 ∨ i = 1 ∨ i = 2 ∨ i = 3 ∨ i = 4 ∨ i = 5 ∨ i = 6 ∨ i = 7 ∨ i = 8 ∨ i = 9 := by omega
  rcases this with rfl | rfl | rfl | rfl | rfl | rfl | rfl | rfl | rfl | rfl <;> rfl
/-- str(i), i a digit -/
theorem cr_strI : CallR X (.type "str") (rBlt X.K (bltP .strI)) := by
  intro pins s σ H xs us Q I r h
  obtain ⟨p, ds, R, rfl, lab, al, hb, q⟩ := h
  change strIP ds R at hb
  unfold strIP at hb
  split at hb
  · obtain ⟨v, _, rfl, rfl, rfl⟩ := al
    rename_i i
    obtain ⟨h0, h1, hb⟩ := hb
    refine call_str_int pins s σ _ _ us Q I r ⟨i, rfl, ?_, ?_⟩
    · have : i.natAbs < 10 := by omega
      have h2 : i.natAbs.log2 ≤ i.natAbs := Nat.log2_le_self _
      omega
    · rw [str_digit i h0 h1]
      exact q _ p _ hb .refl rfl
  · exact hb.elim
end
end Pv

set_option autoImplicit false
set_option linter.all false
set_option Elab.async false
set_option maxRecDepth 100000
/-! Dict comprehensions with three clauses without tests. -/
namespace L2
open PySem PySem.Spec PyProof.Rows

theorem compTurnD3_out {kx vx t0 i0 t1 i1 t2 i2 : Expr} (scope : Scope) (pos : Pos) (it : Value) (D : Addr) (env : Env) :
    compTurn (.DictComp kx vx [⟨t0, i0, [], 0⟩, ⟨t1, i1, [], 0⟩, ⟨t2, i2, [], 0⟩] scope pos) 0 it (.ref D) env = (do
      standAt i0.pos
      match ← pyNext it with
      | none => pure (.done .next)
      | some v =>
        letOwnedTupleGo t0 it v
        assign t0 env v
        let x ← eval i1 env
        standAt i1.pos
        let x ← foldedSetIterable i1 env x
        let _ ← runOwn (.compStart (.DictComp kx vx [⟨t0, i0, [], 0⟩, ⟨t1, i1, [], 0⟩, ⟨t2, i2, [], 0⟩] scope pos) 1 (← holding [x] (pyIter x)) (.ref D) env) env
        again (.compLoop (.DictComp kx vx [⟨t0, i0, [], 0⟩, ⟨t1, i1, [], 0⟩, ⟨t2, i2, [], 0⟩] scope pos) 0 it (.ref D) env)) := by rfl
theorem compTurnD3_mid {kx vx t0 i0 t1 i1 t2 i2 : Expr} (scope : Scope) (pos : Pos) (it : Value) (D : Addr) (env : Env) :
    compTurn (.DictComp kx vx [⟨t0, i0, [], 0⟩, ⟨t1, i1, [], 0⟩, ⟨t2, i2, [], 0⟩] scope pos) 1 it (.ref D) env = (do
      standAt i1.pos
      match ← pyNext it with
      | none => pure (.done .next)
      | some v =>
        letOwnedTupleGo t1 it v
        assign t1 env v
        let x ← eval i2 env
        standAt i2.pos
        let x ← foldedSetIterable i2 env x
        let _ ← runOwn (.compStart (.DictComp kx vx [⟨t0, i0, [], 0⟩, ⟨t1, i1, [], 0⟩, ⟨t2, i2, [], 0⟩] scope pos) 2 (← holding [x] (pyIter x)) (.ref D) env) env
        again (.compLoop (.DictComp kx vx [⟨t0, i0, [], 0⟩, ⟨t1, i1, [], 0⟩, ⟨t2, i2, [], 0⟩] scope pos) 1 it (.ref D) env)) := by rfl
theorem compTurnD3_in {kx vx t0 i0 t1 i1 t2 i2 : Expr} (scope : Scope) (pos : Pos) (it : Value) (D : Addr) (env : Env) :
    compTurn (.DictComp kx vx [⟨t0, i0, [], 0⟩, ⟨t1, i1, [], 0⟩, ⟨t2, i2, [], 0⟩] scope pos) 2 it (.ref D) env = (do
      standAt i2.pos
      match ← pyNext it with
      | none => pure (.done .next)
      | some v =>
        letOwnedTupleGo t2 it v
        assign t2 env v
        (do
          let kv ← eval kx env
          let vv ← holding [kv] (eval vx env)
          standAt { kx.pos with endLine := vx.pos.endLine, endCol := vx.pos.endCol }
          holding [kv, vv] (dictSet D kv vv))
        again (.compLoop (.DictComp kx vx [⟨t0, i0, [], 0⟩, ⟨t1, i1, [], 0⟩, ⟨t2, i2, [], 0⟩] scope pos) 2 it (.ref D) env)) := by rfl

section
variable {prog : Program} {w : World} {A : Around} {R : Result → Shared → Prop} {s : Shared} {it acc : Value} {D : Addr} {env : Env}
def Fls : Value → Shared → Prop := fun _ _ => False
/-- a clause that has another one within it, from its source on -/
def RunsIn (prog : Program) (w : World) (A : Around) (e i : Expr) (d : Nat) (acc : Value) (env : Env) (s : Shared) (G : Shared → Prop) : Prop :=
  wpAny (model prog w) A (eval i env) (fun x s₄ => wpAny (model prog w) A (pyIter x) (fun it1 s₅ => codeAny (model prog w) A (.compStart e d it1 acc env) (fun r s' => match r with
    | .ok _ => G s'
    | .error _ => False) s₅) Fls s₄) Fls s
/-- the last clause's body -/
def RunsPut (prog : Program) (w : World) (A : Around) (kx vx : Expr) (D : Addr) (env : Env) (s : Shared) (G : Shared → Prop) : Prop :=
  wpAny (model prog w) A (eval kx env) (fun kv s₄ => wpAny (model prog w) A (eval vx env) (fun vv s₅ => wpAny (model prog w) A (dictSet D kv vv) (fun _ s₆ => G s₆) Fls s₅) Fls s₄) Fls s
/-- the loop of a clause with the body run -/
def LoopOk (prog : Program) (w : World) (A : Around) (e tg : Expr) (d : Nat) (acc : Value) (env : Env) (run : Shared → (Shared → Prop) → Prop) : Prop :=
  ∀ (it : Value) (R : Result → Shared → Prop) (I : Nat → Shared → Prop), (∀ n s, I n s → wpAny (model prog w) A (pyNext it) (fun r s₁ => match r with
      | none => R (.ok .next) s₁
      | some v => wpAny (model prog w) A (letOwnedTupleGo tg it v) (fun _ s₂ => wpAny (model prog w) A (assign tg env v) (fun _ s₃ => run s₃ fun s' => ∃ m, m < n ∧ I m s') Fls s₂) Fls s₁) Fls s) →
    ∀ n s, I n s → codeAny (model prog w) A (.compLoop e d it acc env) R s
theorem outer_loop {ka va tg i : Expr} {gens : List Comprehension} {sc : Scope} {po p : Pos} {d : Nat}
    (hq : ∀ it, compTurn (.DictComp ka va gens sc po) d it acc env = (do
      standAt p
      match ← pyNext it with
      | none => pure (.done .next)
      | some v =>
        letOwnedTupleGo tg it v
        assign tg env v
        let x ← eval i env
        standAt i.pos
        let x ← foldedSetIterable i env x
        let _ ← runOwn (.compStart (.DictComp ka va gens sc po) (d + 1) (← holding [x] (pyIter x)) acc env) env
        again (.compLoop (.DictComp ka va gens sc po) d it acc env)))
    (hs : ∀ x, foldedSetIterable i env x = pure x) : LoopOk prog w A (.DictComp ka va gens sc po) tg d acc env (RunsIn prog w A (.DictComp ka va gens sc po) i (d + 1) acc env) := by
  intro it R I turn n s h
  refine codeAny_loop rfl I (fun n s hI => ?_) n h
  show wpAny _ A ((compTurn (.DictComp ka va gens sc po) d it acc env).onRaise (fun x => do noteFrame x env; theTreesLotGoes x)) _ _ s
  refine wpAny_noted ?_
  rw [hq]
  refine wpAny_bind (wpAny_standAt (wpAny_bind (wpAny_mono (turn n s hI) (fun r s₁ h₁ => ?_) fun _ _ h' => False.elim h')))
  cases r with
  | none => exact wpAny_pure h₁
  | some v =>
    refine wpAny_bind (wpAny_mono h₁ (fun _ s₁' h₁' => ?_) fun _ _ h' => False.elim h')
    refine wpAny_bind (wpAny_mono h₁' (fun _ s₃ h₃ => ?_) fun _ _ h' => False.elim h')
    refine wpAny_bind (wpAny_mono h₃ (fun x s₄ h₄ => ?_) fun _ _ h' => False.elim h')
    refine wpAny_bind (wpAny_standAt (wpAny_bind (wpAny_of_eq (hs x) (wpAny_bind (wpAny_holding (wpAny_mono h₄ (fun it1 s₅ h₅ => ?_) fun _ _ h' => False.elim h'))))))
    refine wpAny_bind (wpAny_runOwn ?_)
    rw [Around.mark_none]
    refine codeAny_mono h₅ fun r s' hr => ?_
    cases r with
    | ok f =>
      first
        | exact wpAny_pure ⟨rfl, hr⟩
        | exact wpAny_bind (wpAny_pure (wpAny_pure ⟨rfl, hr⟩))
    | error e => exact False.elim hr
theorem inner_loop {ka va tg kx vx : Expr} {gens : List Comprehension} {sc : Scope} {po p q : Pos} {d : Nat}
    (hq : ∀ it, compTurn (.DictComp ka va gens sc po) d it (.ref D) env = (do
      standAt p
      match ← pyNext it with
      | none => pure (.done .next)
      | some v =>
        letOwnedTupleGo tg it v
        assign tg env v
        (do
          let kv ← eval kx env
          let vv ← holding [kv] (eval vx env)
          standAt q
          holding [kv, vv] (dictSet D kv vv))
        again (.compLoop (.DictComp ka va gens sc po) d it (.ref D) env))) : LoopOk prog w A (.DictComp ka va gens sc po) tg d (.ref D) env (RunsPut prog w A kx vx D env) := by
  intro it R I turn n s h
  refine codeAny_loop rfl I (fun n s hI => ?_) n h
  show wpAny _ A ((compTurn (.DictComp ka va gens sc po) d it (.ref D) env).onRaise (fun x => do noteFrame x env; theTreesLotGoes x)) _ _ s
  refine wpAny_noted ?_
  rw [hq]
  refine wpAny_bind (wpAny_standAt (wpAny_bind (wpAny_mono (turn n s hI) (fun r s₁ h₁ => ?_) fun _ _ h' => False.elim h')))
  cases r with
  | none => exact wpAny_pure h₁
  | some v =>
    refine wpAny_bind (wpAny_mono h₁ (fun _ s₁' h₁' => ?_) fun _ _ h' => False.elim h')
    refine wpAny_bind (wpAny_mono h₁' (fun _ s₃ h₃ => ?_) fun _ _ h' => False.elim h')
    exact wpAny_bind (wpAny_bind (wpAny_mono h₃ (fun kv s₄ h₄ => wpAny_bind (wpAny_holding (wpAny_mono h₄ (fun vv s₅ h₅ => wpAny_bind (wpAny_standAt (wpAny_holding (wpAny_mono h₅ (fun _ s₆ h₆ => wpAny_pure ⟨rfl, h₆⟩) fun _ _ h' => False.elim h')))) fun _ _ h' => False.elim h'))) fun _ _ h' => False.elim h'))
theorem startD3_1 {kx vx t0 i0 t1 i1 t2 i2 : Expr} {scope : Scope} {pos : Pos} (h0 : codeAny (model prog w) A (.compLoop (.DictComp kx vx [⟨t0, i0, [], 0⟩, ⟨t1, i1, [], 0⟩, ⟨t2, i2, [], 0⟩] scope pos) 1 it acc env) R s)
    (h : wpAny (model prog w) A (pyIter it) (fun it' s' => codeAny (model prog w) A (.compLoop (.DictComp kx vx [⟨t0, i0, [], 0⟩, ⟨t1, i1, [], 0⟩, ⟨t2, i2, [], 0⟩] scope pos) 1 it' acc env) R s')
      (notedBy (model prog w) A env fun x s' => R (.error x) s') s) :
    codeAny (model prog w) A (.compStart (.DictComp kx vx [⟨t0, i0, [], 0⟩, ⟨t1, i1, [], 0⟩, ⟨t2, i2, [], 0⟩] scope pos) 1 it acc env) R s := by
  refine codeAny_of_tree ?_
  show wpAny _ _ ((compStart (.DictComp kx vx [⟨t0, i0, [], 0⟩, ⟨t1, i1, [], 0⟩, ⟨t2, i2, [], 0⟩] scope pos) 1 it acc env).onRaise (fun x => do noteFrame x env; standAt theWindowsPlace)) _ _ s
  refine wpAny_notedAt ?_
  unfold compStart
  show wpAny _ _ (ask >>= _) _ _ s
  refine wpAny_bind (wpAny_askSetting (wpAny_ite ?_))
  split
  · first
      | exact wpAny_bind (wpAny_pure (wpAny_pure (And.intro rfl h0)))
      | exact wpAny_pure (And.intro rfl h0)
  · first
      | exact wpAny_bind (wpAny_rule (wpAny_bind (wpAny_standAt (wpAny_bind (wpAny_mono h (fun it' s' h' => wpAny_pure (And.intro rfl h')) fun _ _ x => x)))))
      | (refine wpAny_bind (wpAny_rule ?_); show wpAny _ _ (standAt i1.pos >>= _) _ _ s; exact wpAny_bind (wpAny_standAt (wpAny_bind (wpAny_mono h (fun it' s' h' => wpAny_pure (And.intro rfl h')) fun _ _ x => x))))
theorem startD3_2 {kx vx t0 i0 t1 i1 t2 i2 : Expr} {scope : Scope} {pos : Pos} (h0 : codeAny (model prog w) A (.compLoop (.DictComp kx vx [⟨t0, i0, [], 0⟩, ⟨t1, i1, [], 0⟩, ⟨t2, i2, [], 0⟩] scope pos) 2 it acc env) R s)
    (h : wpAny (model prog w) A (pyIter it) (fun it' s' => codeAny (model prog w) A (.compLoop (.DictComp kx vx [⟨t0, i0, [], 0⟩, ⟨t1, i1, [], 0⟩, ⟨t2, i2, [], 0⟩] scope pos) 2 it' acc env) R s')
      (notedBy (model prog w) A env fun x s' => R (.error x) s') s) :
    codeAny (model prog w) A (.compStart (.DictComp kx vx [⟨t0, i0, [], 0⟩, ⟨t1, i1, [], 0⟩, ⟨t2, i2, [], 0⟩] scope pos) 2 it acc env) R s := by
  refine codeAny_of_tree ?_
  show wpAny _ _ ((compStart (.DictComp kx vx [⟨t0, i0, [], 0⟩, ⟨t1, i1, [], 0⟩, ⟨t2, i2, [], 0⟩] scope pos) 2 it acc env).onRaise (fun x => do noteFrame x env; standAt theWindowsPlace)) _ _ s
  refine wpAny_notedAt ?_
  unfold compStart
  show wpAny _ _ (ask >>= _) _ _ s
  refine wpAny_bind (wpAny_askSetting (wpAny_ite ?_))
  split
  · first
      | exact wpAny_bind (wpAny_pure (wpAny_pure (And.intro rfl h0)))
      | exact wpAny_pure (And.intro rfl h0)
  · first
      | exact wpAny_bind (wpAny_rule (wpAny_bind (wpAny_standAt (wpAny_bind (wpAny_mono h (fun it' s' h' => wpAny_pure (And.intro rfl h')) fun _ _ x => x)))))
      | (refine wpAny_bind (wpAny_rule ?_); show wpAny _ _ (standAt i2.pos >>= _) _ _ s; exact wpAny_bind (wpAny_standAt (wpAny_bind (wpAny_mono h (fun it' s' h' => wpAny_pure (And.intro rfl h')) fun _ _ x => x))))
end
abbrev TB := St → Hp → (St → Hp → Prop) → Prop
/-- what a clause's body does in the block B -/
def BodyOk (B : Cx) (run : Shared → (Shared → Prop) → Prop) (tb : TB) : Prop := ∀ (pins : List (Addr × Obj)) (s : Shared) (σ : St) (H : Hp) (Q : St → Hp → Prop), Inv B pins σ H s → tb σ H Q → run s fun s' => ∃ σ' H', Inv B pins σ' H' s' ∧ Q σ' H'
/-- a clause within another one: its source, then turn by turn -/
def tCl (wi : TI) (g : TG) (tb : TB) (vs : List Nat) : TB := fun σ H Q => wi σ H fun J H1 => ∃ W : Nat → Nat → Hp → Prop, (∃ m, W 0 m H1) ∧ ∀ j k H, W j k H →
  (J.stop j H ∧ Q (wipe σ vs) H) ∨ (J.go j H ∧ ∃ Nx : Hp → Prop, (∀ H', Nx H' → ∃ k', k' < k ∧ W (j + 1) k' H') ∧ ∀ x H', J.yld j H x H' → g x (wipe σ vs) H' fun σ2 H2 => tb σ2 H2 fun σ3 H3 => wipe σ3 vs = wipe σ vs ∧ Nx H3)
def tPut (D : Addr) (tk tv : TE) : TB := fun σ H Q => tk σ H fun y H4 => tv σ H4 fun z H5 => ∃ kvs k, y = kV k ∧ H5 D = some (.dK kvs) ∧ kvs.length < sizeLine ∧ Q σ (upd H5 D (.dK (putK kvs k z)))
theorem put_ok {X : Cx} {s3 : Shared} {H3 : Hp} {scope : Scope} {ce : Env} {fp : List Addr} {D : Addr} {kx vx : Expr} {tk tv : TE} (pk : PE (X.blk s3 H3 scope ce fp) kx tk) (pe : PE (X.blk s3 H3 scope ce fp) vx tv) :
    BodyOk (X.blk s3 H3 scope ce fp) (RunsPut X.prog X.w X.A kx vx D ce) (tPut D tk tv) := fun pins s σ H Q I h => by
  refine thnF (pk.run _ s σ H _ I h) fun z s10 ⟨yk, H10, I10, r10, q10⟩ => ?_
  refine thnF (pe.run _ s10 σ H10 _ I10 q10) fun z2 s11 ⟨yv, H11, I11, r11, kvs, k, ek, hD11, hz11, nx⟩ => ?_
  subst ek
  exact d_dictSet (X := X.blk s3 H3 scope ce fp) I11 hD11 hz11 r10 r11 fun s12 I12 => ⟨σ, _, I12, nx⟩
theorem clause_ok {X : Cx} {s3 : Shared} {H3 : Hp} {scope : Scope} {ce : Env} {fp : List Addr} {wi : TI} {g : TG} {tb : TB} {vs : List Nat} {tg i e : Expr} {d : Nat} {acc : Value} {run : Shared → (Shared → Prop) → Prop} (hc : X.calm = true)
    (pi1 : PI (X.blk s3 H3 scope ce fp) tg i wi) (pg1 : PG (X.blk s3 H3 scope ce fp) tg g) (body : BodyOk (X.blk s3 H3 scope ce fp) run tb)
    (loop : LoopOk X.prog X.w X.A e tg d acc ce run) (mono : ∀ s {P P' : Shared → Prop}, (∀ s, P s → P' s) → run s P → run s P')
    (start : ∀ {it : Value} {s : Shared} {R : Result → Shared → Prop}, codeAny (model X.prog X.w) X.A (.compLoop e d it acc ce) R s → wpAny (model X.prog X.w) X.A (pyIter it) (fun it' s' => codeAny (model X.prog X.w) X.A (.compLoop e d it' acc ce) R s') (notedBy (model X.prog X.w) X.A ce fun x s' => R (.error x) s') s → codeAny (model X.prog X.w) X.A (.compStart e d it acc ce) R s) :
    BodyOk (X.blk s3 H3 scope ce fp) (RunsIn X.prog X.w X.A e i d acc ce) (tCl wi g tb vs) := fun pins s σ H Q I h => by
  refine thnF (pi1.run _ s σ H _ I h) fun xv s10 hx => thnF hx fun itv s11 h11 => ?_
  obtain ⟨it1, fp1, tn1, J1, H11, e1, I11, T1, st11, f11, W1, ⟨m1, w1⟩, turn1⟩ := h11
  subst e1
  have stat1 : ∀ {H' : Hp}, (∀ b ∈ fp1, H' b = none) → ∀ b ∈ fp1, FpOk (X.blk s3 H3 scope ce fp) pins H' b := fun hn b hb => ⟨hn b hb, (f11 b hb).2⟩
  have loop1 : codeAny (model X.prog X.w) X.A (.compLoop e d (.ref it1) acc ce)
      (fun r s' => match r with
        | .ok _ => ∃ σ' H', Inv (X.blk s3 H3 scope ce fp) pins σ' H' s' ∧ Q σ' H'
        | .error _ => False) s11 := by
    refine loop (.ref it1) _ (fun k s' => ∃ j H', Inv (X.blk s3 H3 scope ce fp) pins (wipe σ vs) H' s' ∧ tn1 j s'.heap ∧ (∀ b ∈ fp1, H' b = none) ∧ W1 j k H') ?_ m1 s11 ⟨0, H11, I11.weak (wipe_length _ _) (fun j v e => (wipe_some e).1), st11, fun b hb => (f11 b hb).1, w1⟩
    rintro k s12 ⟨j, H12, I12, st12, n12, w12⟩
    rcases turn1 j k H12 w12 with ⟨stop1, nx1⟩ | ⟨go1, Nx1, hNx1, step1⟩
    · refine thnF (T1.done (X.blk s3 H3 scope ce fp) rfl rfl rfl hc j _ s12 (wipe σ vs) H12 (fun _ _ => False) I12 (stat1 n12) st12 stop1) fun r s13 ⟨hr, I13⟩ => ?_
      subst hr
      exact ⟨_, _, I13, nx1⟩
    · refine thnF (T1.item (X.blk s3 H3 scope ce fp) rfl rfl rfl hc j _ s12 (wipe σ vs) H12 (fun _ _ => False) I12 (stat1 n12) st12 go1) fun r s13 ⟨u1, hr, h13⟩ => ?_
      subst hr
      refine thnF h13 fun _ s14 ⟨x1, H14, I14, r14, y14, st14, n14⟩ => ?_
      have I14' := I14.pinned (stat1 n14) (T1.obj _ _ st14)
      refine thnF (pg1.run _ s14 (wipe σ vs) H14 x1 u1 _ I14' r14 (step1 x1 H14 y14)) fun _ s15 ⟨σ15, H15, I15, q15⟩ => ?_
      refine mono s15 ?_ (body _ s15 σ15 H15 _ I15 q15)
      rintro s' ⟨σ16, H16, I16, hw, nx⟩
      obtain ⟨m', hm, w'⟩ := hNx1 H16 nx
      have pin' : ∀ b ∈ fp1, ∀ o, s14.heap.get? b = some o → s'.heap.get? b = some o ∧ H16 b = none := fun b hb o e =>
        let z := I16.pin (b, o) (List.mem_append_right _ (List.mem_append_right _ (mem_pinsAt hb e)))
        ⟨z.1, z.2.1⟩
      refine ⟨m', hm, j + 1, H16, I16.unpinned.weak (by rw [← hw, wipe_length]) (fun j v e => by rw [← hw] at e; exact (wipe_some e).1), T1.keep _ _ _ st14 fun b hb o e => (pin' b hb o e).1, fun b hb => ?_, w'⟩
      obtain ⟨o, e, _⟩ := T1.obj _ _ st14 b hb
      exact (pin' b hb o e).2
  exact start loop1 (T1.self X.A 0 _ _ _ st11 loop1)
theorem runsIn_mono {prog : Program} {w : World} {A : Around} {e i : Expr} {d : Nat} {acc : Value} {env : Env} (s : Shared) {P P' : Shared → Prop} (h : ∀ s, P s → P' s) (r : RunsIn prog w A e i d acc env s P) : RunsIn prog w A e i d acc env s P' :=
  thn r fun x s1 r => thn r fun it s2 r => codeAny_mono r fun r s' hr => by
    cases r with
    | ok f => exact h _ hr
    | error e => exact hr
theorem runsPut_mono {prog : Program} {w : World} {A : Around} {kx vx : Expr} {D : Addr} {env : Env} (s : Shared) {P P' : Shared → Prop} (h : ∀ s, P s → P' s) (r : RunsPut prog w A kx vx D env s P) : RunsPut prog w A kx vx D env s P' :=
  thn r fun x s1 r => thn r fun it s2 r => thn r fun _ s3 r => h _ r
section
variable {X : Cx}
/-- {k: v for t0 in i0 for t1 in i1 for t2 in i2} -/
def tDn (wi : TI) (g : TG) (tb : Addr → TB) (vs : List Nat) : TE := fun σ H Q => wi σ H fun J H1 => ∀ D, H1 D = none → ∃ W : Nat → Nat → Hp → Prop, (∃ m, W 0 m (upd H1 D (.dK []))) ∧ ∀ i m H, W i m H →
  (J.stop i H ∧ Q (.ref D) H) ∨ (J.go i H ∧ ∃ Nx : Hp → Prop, (∀ H', Nx H' → ∃ m', m' < m ∧ W (i + 1) m' H') ∧ ∀ x H', J.yld i H x H' → g x (wipe σ vs) H' fun σ2 H2 => tb D σ2 H2 fun σ3 H3 => wipe σ3 vs = wipe σ vs ∧ Nx H3)
theorem dn_core {pins : List (Addr × Obj)} {s : Shared} {σ : St} {H : Hp} {Q : VK} {kx vx tg iter : Expr} {rest : List Comprehension} {scope : Scope} {own : List (Str × Nat)} {pos pos' : Pos} {wi : TI} {g : TG} {tb : Addr → TB} {use : Option (Value → Sem Unit)} {Qf : Value → Shared → Prop}
    {run : Env → Addr → Shared → (Shared → Prop) → Prop}
    (hc : X.calm = true) (hN : X.N.Nodup) (I : Inv X pins σ H s) (hi : PI X tg iter wi) (ok : BlkOk X.N X.env.scope scope own)
    (hg : ∀ (s : Shared) (H : Hp) (C : Addr) (cl : List (Str × Addr)) (fp : List Addr), PG (X.blk s H scope (compEnvC scope cl C X.env) fp) tg g)
    (hb : ∀ (s : Shared) (H : Hp) (C : Addr) (cl : List (Str × Addr)) (fp : List Addr) (D : Addr), BodyOk (X.blk s H scope (compEnvC scope cl C X.env) fp) (run (compEnvC scope cl C X.env) D) (tb D))
    (mono : ∀ env D s {P P' : Shared → Prop}, (∀ s, P s → P' s) → run env D s P → run env D s P')
    (lp : ∀ env D, LoopOk X.prog X.w X.A (.DictComp kx vx (⟨tg, iter, [], 0⟩ :: rest) scope pos) tg 0 (.ref D) env (run env D)) (hs : ∀ x, foldedSetIterable iter X.env x = pure x)
    (h : tDn wi g tb (own.map (·.2)) σ H Q)
    (hRR : ∀ D C s' m H', Inv X pins σ H' s' → Q (.ref D) H' → s'.heap.Ns C m → FpOk X pins H' C → compPost (model X.prog X.w) X.A X.xe use Qf (.ref D) C (.ok .next) s') :
    wpAny (model X.prog X.w) X.A (comprehension (.DictComp kx vx (⟨tg, iter, [], 0⟩ :: rest) scope pos) scope X.env pos' newDict false (eval iter X.env) use) Qf X.xe s := by
  have hfree : ∀ y ∈ scope.names, y.2 = .free → ∃ c, X.env.cells.lookup y.1 = some c := fun y hy e => by
    rcases ok.free y hy e with k | k
    · exact I.ok.has _ (.inl k)
    · exact I.ok.has _ (.inr k)
  refine wpAny_comprehension_free (use := use) rfl hs (closure_ok hfree) ok.kind (fun y hy e => by rw [ok.uniq y hy, e])
    (thn (hi.run pins s σ H _ I h) fun xv s1 hx => thn hx fun itv s2 h2 => ?_)
  obtain ⟨it, fp, tn, J, H2, e, I2, T, st2, f2, q⟩ := h2
  subst e
  refine wpAny_newObj_type (newEnv_comp ?_)
  generalize hD : s2.heap.objs.size = D
  have hDn : H2 D = none := I2.hok.fresh (Nat.le_of_eq hD)
  obtain ⟨W, ⟨m0, w0⟩, turn⟩ := q D hDn
  -- the new list
  generalize hs3 : ({ s2 with heap := s2.heap.push { cls := .type "dict", data := .dict #[] } } : Shared) = s3
  have I3 : Inv X pins σ (upd H2 D (.dK [])) s3 := by
    rw [← hs3]
    refine I2.laid (t' := s2.toks) (fun b o e => Heap.get?_push_of_some _ e) (Nat.le_of_eq hD) ?_
    rw [← hD]
    exact dk_empty s2.heap I2.big
  have h3 : s3.heap = s2.heap.push { cls := .type "dict", data := .dict #[] } := by rw [← hs3]
  have sz : ∀ b ∈ fp, b < s2.heap.objs.size := fun b hb => by
    obtain ⟨o, e, _⟩ := T.obj _ _ st2 b hb
    exact Heap.lt_size e
  have f3 : ∀ b ∈ fp, FpOk X pins (upd H2 D (.dK [])) b ∧ b < s3.heap.objs.size := fun b hb => by
    have hlt := sz b hb
    refine ⟨⟨?_, (f2 b hb).2⟩, by rw [h3, Heap.size_push]; exact Nat.lt_succ_of_lt hlt⟩
    rw [upd_ne (by rw [← hD]; exact Nat.ne_of_lt hlt)]
    exact (f2 b hb).1
  have st3 : tn 0 s3.heap := T.keep _ _ _ st2 fun b _ o e => by rw [h3]; exact Heap.get?_push_of_some _ e
  have I4 := block_start I3 ok hN f3
  have pg := hg s3 (upd H2 D (.dK [])) s3.heap.objs.size (cellsFrom (s3.heap.objs.size + 1) scope.names (cloFrom X.env.cells scope.names [])) fp
  have pb := hb s3 (upd H2 D (.dK [])) s3.heap.objs.size (cellsFrom (s3.heap.objs.size + 1) scope.names (cloFrom X.env.cells scope.names [])) fp D
  show codeAny _ _ (.compStart (.DictComp kx vx (⟨tg, iter, [], 0⟩ :: rest) scope pos) 0 (.ref it) (.ref D) (compEnvC scope (cellsFrom (s3.heap.objs.size + 1) scope.names (cloFrom X.env.cells scope.names [])) s3.heap.objs.size X.env)) (compPost (model X.prog X.w) X.A X.xe use Qf (.ref D) s3.heap.objs.size) { s3 with heap := pushCells (s3.heap.push { cls := .type "dict", data := .dict #[] }) scope.names }
  have nfp : ∀ b ∈ fp, (upd H2 D (.dK [])) b = none := fun b hb => (f3 b hb).1.1
  generalize hce : compEnvC scope (cellsFrom (s3.heap.objs.size + 1) scope.names (cloFrom X.env.cells scope.names [])) s3.heap.objs.size X.env = ce at I4 pg pb ⊢
  have cL : ce.locals = s3.heap.objs.size := by subst hce; rfl
  generalize hH3 : upd H2 D (.dK []) = H3 at I3 I4 pg pb w0 nfp f3
  generalize hs4 : ({ s3 with heap := pushCells (s3.heap.push { cls := .type "dict", data := .dict #[] }) scope.names } : Shared) = s4 at I4 ⊢
  have st4 : tn 0 s4.heap := T.keep _ _ _ st3 fun b _ o e => by rw [← hs4]; exact pushCells_keeps _ _ _ _ (Heap.get?_push_of_some _ e)
  have stat : ∀ {σ' : St} {H' : Hp} {s' : Shared}, Inv (X.blk s3 H3 scope ce fp) [] σ' H' s' → (∀ b ∈ fp, H' b = none) → ∀ b ∈ fp, FpOk (X.blk s3 H3 scope ce fp) [] H' b := fun {σ' H' s'} I' hn b hb =>
    ⟨hn b hb, (I'.ok.exf b hb).1, I'.ok.exfs b hb, .inl hb, fun x c e => (I'.ok.exf b hb).2 x c e, fun p hp => absurd (show p ∈ ([] : List (Addr × Obj)) ++ [] from hp) (by simp)⟩
  have loop : codeAny (model X.prog X.w) X.A (.compLoop (.DictComp kx vx (⟨tg, iter, [], 0⟩ :: rest) scope pos) 0 (.ref it) (.ref D) ce) (compPost (model X.prog X.w) X.A X.xe use Qf (.ref D) s3.heap.objs.size) s4 := by
    refine lp ce D (.ref it) _ (fun n s' => ∃ i H', Inv (X.blk s3 H3 scope ce fp) [] (wipe σ (own.map (·.2))) H' s' ∧ tn i s'.heap ∧ (∀ b ∈ fp, H' b = none) ∧ W i n H') ?_ m0 s4 ⟨0, H3, I4, st4, nfp, w0⟩
    rintro n s5 ⟨i, H5, I5, st5, n5, w5⟩
    rcases turn i n H5 w5 with ⟨stop, qq⟩ | ⟨go, Nx, hNx, step⟩
    · have td := T.done (X.blk s3 H3 scope ce fp) rfl rfl rfl hc i [] s5 _ H5 (fun _ _ => False) I5 (stat I5 n5) st5 stop
      refine thnF td fun r s6 ⟨hr, I6⟩ => ?_
      subst hr
      -- back in the def's context
      have I7 : Inv X pins σ H5 s6 := I3.call' (ch := fp) I6.os I6.base I6.hok I6.bare fun b hb => ⟨(f3 b hb).1.2.2.2.1, (f3 b hb).1.2.1, (f3 b hb).1.2.2.2.2.1, (f3 b hb).1.2.2.2.2.2⟩
      have nC : H5 s3.heap.objs.size = none := by
        have z : H5 ce.locals = none := I6.free
        rw [cL] at z
        exact z
      obtain ⟨m, hn, _⟩ := I6.loc
      have hn : s6.heap.Ns ce.locals m := hn
      rw [cL] at hn
      exact hRR D s3.heap.objs.size s6 m H5 I7 qq hn (I3.fpOk (Nat.le_refl _) nC)
    · have ti := T.item (X.blk s3 H3 scope ce fp) rfl rfl rfl hc i [] s5 _ H5 (fun _ _ => False) I5 (stat I5 n5) st5 go
      refine thnF ti fun r s6 ⟨u, hr, h6⟩ => ?_
      subst hr
      refine thnF h6 fun _ s7 ⟨x, H7, I7, r7, y7, st7, n7⟩ => ?_
      have I7' := I7.pinned (stat I7 n7) (T.obj _ _ st7)
      refine thnF (pg.run _ s7 _ H7 x u _ I7' r7 (step x H7 y7)) fun _ s8 ⟨σ8, H8, I8, q8⟩ => ?_
      refine mono _ _ s8 ?_ (pb _ s8 σ8 H8 _ I8 q8)
      rintro s' ⟨σ9, H', I', hw8, nx⟩
      obtain ⟨m', hm, w'⟩ := hNx H' nx
      have pin' : ∀ b ∈ fp, ∀ o, s7.heap.get? b = some o → s'.heap.get? b = some o ∧ H' b = none := fun b hb o e =>
        let z := I'.pin (b, o) (List.mem_append_right _ (List.mem_append_right _ (mem_pinsAt hb e)))
        ⟨z.1, z.2.1⟩
      have hl : (wipe σ (own.map (·.2))).length = σ9.length := by rw [← hw8, wipe_length]
      refine ⟨m', hm, i + 1, H', (I'.unpinned (pins := [])).weak hl (fun j v e => ?_), T.keep _ _ _ st7 fun b hb o e => (pin' b hb o e).1, fun b hb => ?_, w'⟩
      · rw [← hw8] at e
        exact (wipe_some e).1
      · obtain ⟨o, e, _⟩ := T.obj _ _ st7 b hb
        exact (pin' b hb o e).2
  exact codeAny_compStart_dict loop (T.self X.A 0 _ _ _ st4 loop)
/-- as a value -/
theorem pe_dc3 {kx vx t0 i0 t1 i1 t2 i2 : Expr} {scope : Scope} {own : List (Str × Nat)} {vs1 vs2 : List Nat} {pos : Pos} {w0 w1 w2 : TI} {g0 g1 g2 : TG} {tk tv : TE} (hc : X.calm = true) (hN : X.N.Nodup) (hi : PI X t0 i0 w0) (ok : BlkOk X.N X.env.scope scope own)
    (hg0 : ∀ (s : Shared) (H : Hp) (C : Addr) (cl : List (Str × Addr)) (fp : List Addr), PG (X.blk s H scope (compEnvC scope cl C X.env) fp) t0 g0)
    (hi1 : ∀ (s : Shared) (H : Hp) (C : Addr) (cl : List (Str × Addr)) (fp : List Addr), PI (X.blk s H scope (compEnvC scope cl C X.env) fp) t1 i1 w1)
    (hg1 : ∀ (s : Shared) (H : Hp) (C : Addr) (cl : List (Str × Addr)) (fp : List Addr), PG (X.blk s H scope (compEnvC scope cl C X.env) fp) t1 g1)
    (hi2 : ∀ (s : Shared) (H : Hp) (C : Addr) (cl : List (Str × Addr)) (fp : List Addr), PI (X.blk s H scope (compEnvC scope cl C X.env) fp) t2 i2 w2)
    (hg2 : ∀ (s : Shared) (H : Hp) (C : Addr) (cl : List (Str × Addr)) (fp : List Addr), PG (X.blk s H scope (compEnvC scope cl C X.env) fp) t2 g2)
    (hk : ∀ (s : Shared) (H : Hp) (C : Addr) (cl : List (Str × Addr)) (fp : List Addr), PE (X.blk s H scope (compEnvC scope cl C X.env) fp) kx tk)
    (he : ∀ (s : Shared) (H : Hp) (C : Addr) (cl : List (Str × Addr)) (fp : List Addr), PE (X.blk s H scope (compEnvC scope cl C X.env) fp) vx tv) (hs : ∀ x, foldedSetIterable i0 X.env x = pure x := by intro _; rfl)
    (hs1 : ∀ env x, foldedSetIterable i1 env x = pure x := by intro _ _; rfl) (hs2 : ∀ env x, foldedSetIterable i2 env x = pure x := by intro _ _; rfl) :
    PE X (.DictComp kx vx [⟨t0, i0, [], 0⟩, ⟨t1, i1, [], 0⟩, ⟨t2, i2, [], 0⟩] scope pos) (tDn w0 g0 (fun D => tCl w1 g1 (tCl w2 g2 (tPut D tk tv) vs2) vs1) (own.map (·.2))) := by
  refine ⟨fun pins s σ H Q I h => ?_⟩
  rw [arm_eval_DictComp]
  refine dn_core (run := fun env D => RunsIn X.prog X.w X.A (.DictComp kx vx [⟨t0, i0, [], 0⟩, ⟨t1, i1, [], 0⟩, ⟨t2, i2, [], 0⟩] scope pos) i1 1 (.ref D) env) hc hN I hi ok hg0 (fun s H C cl fp D => ?_) (fun env D s P P' hp => runsIn_mono s hp) (fun env D => ?_) hs h fun D C s' m H' I' q hn f => ⟨m, hn, fun h'' sb => ?_⟩
  · refine clause_ok hc (hi1 s H C cl fp) (hg1 s H C cl fp) (clause_ok (e := (.DictComp kx vx [⟨t0, i0, [], 0⟩, ⟨t1, i1, [], 0⟩, ⟨t2, i2, [], 0⟩] scope pos)) (d := 2) (acc := .ref D) hc (hi2 s H C cl fp) (hg2 s H C cl fp) (put_ok (D := D) (hk s H C cl fp) (he s H C cl fp)) ?_ (fun s P P' hp => runsPut_mono s hp) fun h0 h => startD3_2 h0 h) ?_ (fun s P P' hp => runsIn_mono s hp) fun h0 h => startD3_1 h0 h
    · exact inner_loop fun it => compTurnD3_in scope pos it D _
    · exact outer_loop (fun it => compTurnD3_mid scope pos it D _) (hs2 _)
  · exact outer_loop (fun it => compTurnD3_out scope pos it D _) (hs1 _)
  obtain ⟨f0, f1, f2, f3, f4, f5⟩ := f
  exact ⟨.ref D, H', I'.turned (t' := s'.toks) (fun b o hb e => (sb.2 b hb).trans e) f0 f1 f3 f4 f5, rfl, q⟩
theorem ps_setDc3 {n : Nat} {y : Str} {py spos : Pos} {kx vx t0 i0 t1 i1 t2 i2 : Expr} {scope : Scope} {own : List (Str × Nat)} {vs1 vs2 : List Nat} {pos : Pos} {w0 w1 w2 : TI} {g0 g1 g2 : TG} {tk tv : TE} (hc : X.calm = true) (hN : X.N.Nodup) (hy : X.N[n]? = some y) (hyl : X.env.scope.names.lookup y = some .local)
    (hsw : swapsWith (.DictComp kx vx [⟨t0, i0, [], 0⟩, ⟨t1, i1, [], 0⟩, ⟨t2, i2, [], 0⟩] scope pos) (some (.Name y py)) spos.line X.env = pure true) (hi : PI X t0 i0 w0) (ok : BlkOk X.N X.env.scope scope own)
    (hg0 : ∀ (s : Shared) (H : Hp) (C : Addr) (cl : List (Str × Addr)) (fp : List Addr), PG (X.blk s H scope (compEnvC scope cl C X.env) fp) t0 g0)
    (hi1 : ∀ (s : Shared) (H : Hp) (C : Addr) (cl : List (Str × Addr)) (fp : List Addr), PI (X.blk s H scope (compEnvC scope cl C X.env) fp) t1 i1 w1)
    (hg1 : ∀ (s : Shared) (H : Hp) (C : Addr) (cl : List (Str × Addr)) (fp : List Addr), PG (X.blk s H scope (compEnvC scope cl C X.env) fp) t1 g1)
    (hi2 : ∀ (s : Shared) (H : Hp) (C : Addr) (cl : List (Str × Addr)) (fp : List Addr), PI (X.blk s H scope (compEnvC scope cl C X.env) fp) t2 i2 w2)
    (hg2 : ∀ (s : Shared) (H : Hp) (C : Addr) (cl : List (Str × Addr)) (fp : List Addr), PG (X.blk s H scope (compEnvC scope cl C X.env) fp) t2 g2)
    (hk : ∀ (s : Shared) (H : Hp) (C : Addr) (cl : List (Str × Addr)) (fp : List Addr), PE (X.blk s H scope (compEnvC scope cl C X.env) fp) kx tk)
    (he : ∀ (s : Shared) (H : Hp) (C : Addr) (cl : List (Str × Addr)) (fp : List Addr), PE (X.blk s H scope (compEnvC scope cl C X.env) fp) vx tv) (hs : ∀ x, foldedSetIterable i0 X.env x = pure x := by intro _; rfl)
    (hs1 : ∀ env x, foldedSetIterable i1 env x = pure x := by intro _ _; rfl) (hs2 : ∀ env x, foldedSetIterable i2 env x = pure x := by intro _ _; rfl) :
    PS X (.Assign [.Name y py] (.DictComp kx vx [⟨t0, i0, [], 0⟩, ⟨t1, i1, [], 0⟩, ⟨t2, i2, [], 0⟩] scope pos) spos) (tAsg (tDn w0 g0 (fun D => tCl w1 g1 (tCl w2 g2 (tPut D tk tv) vs2) vs1) (own.map (·.2))) (gName n)) := by
  refine ⟨fun pins s σ H Dn I h => ?_⟩
  rw [exec_Assign_Name_used _ _ _ _ hsw]
  refine wpAny_bind (wpAny_standAt (wpAny_bind ?_))
  show wpAny _ X.A (do let _ ← comprehension (.DictComp kx vx [⟨t0, i0, [], 0⟩, ⟨t1, i1, [], 0⟩, ⟨t2, i2, [], 0⟩] scope pos) scope X.env (firstIterPos [⟨t0, i0, [], 0⟩, ⟨t1, i1, [], 0⟩, ⟨t2, i2, [], 0⟩] pos) newDict false (eval i0 X.env) (some (assign (.Name y py) X.env))) _ _ s
  have h : tDn w0 g0 (fun D => tCl w1 g1 (tCl w2 g2 (tPut D tk tv) vs2) vs1) (own.map (·.2)) σ H (fun x H1 => gName n x σ H1 Dn.nx) := h
  refine wpAny_bind (thn (dn_core (Qf := fun _ s' => SP X pins Dn .next s') (run := fun env D => RunsIn X.prog X.w X.A (.DictComp kx vx [⟨t0, i0, [], 0⟩, ⟨t1, i1, [], 0⟩, ⟨t2, i2, [], 0⟩] scope pos) i1 1 (.ref D) env) hc hN I hi ok hg0 (fun s H C cl fp D => ?_) (fun env D s P P' hp => runsIn_mono s hp) (fun env D => ?_) hs h fun L C s' m H' I' q hn f => ?_) fun _ s' hq => wpAny_pure (wpAny_pure hq))
  · refine clause_ok hc (hi1 s H C cl fp) (hg1 s H C cl fp) (clause_ok (e := (.DictComp kx vx [⟨t0, i0, [], 0⟩, ⟨t1, i1, [], 0⟩, ⟨t2, i2, [], 0⟩] scope pos)) (d := 2) (acc := .ref D) hc (hi2 s H C cl fp) (hg2 s H C cl fp) (put_ok (D := D) (hk s H C cl fp) (he s H C cl fp)) ?_ (fun s P P' hp => runsPut_mono s hp) fun h0 h => startD3_2 h0 h) ?_ (fun s P P' hp => runsIn_mono s hp) fun h0 h => startD3_1 h0 h
    · exact inner_loop fun it => compTurnD3_in scope pos it D _
    · exact outer_loop (fun it => compTurnD3_mid scope pos it D _) (hs2 _)
  · exact outer_loop (fun it => compTurnD3_out scope pos it D _) (hs1 _)
  show wpAny _ _ (assign (.Name y py) X.env (.ref L)) _ _ _
  refine wpAny_assign_Name (store_ok2 (v := V.ref L) I' hN hy (.inl hyl) rfl (fun s2 I2 ⟨a, sb, ha⟩ => ?_) (.inr hyl))
  obtain ⟨f0, f1, f2, f3, f4, f5⟩ := f
  have haC : C ≠ a := by
    rcases ha with z | z
    · rw [z]; exact f1
    · exact fun e => f4 y a z e.symm
  refine ⟨m, hn.sameBut sb haC, fun h3 sb3 => ?_⟩
  exact ⟨_, H', I2.turned (t' := s2.toks) (fun b o hb e => (sb3.2 b hb).trans e) f0 f1 f3 f4 f5, q⟩
theorem sw_trueD {kx vx : Expr} {gs : List Comprehension} {scope : Scope} {pos py : Pos} {y : Str} {l : Nat} {env : Env} (hk : env.scope.kind = .function) (hy : env.scope.names.lookup y = some .local) (hl : (py.line == pos.line) = true)
    (ha : (scope.names.any fun (n, k) => n == y && (k == .local || k == .cell)) = false) : swapsWith (.DictComp kx vx gs scope pos) (some (.Name y py)) l env = pure true := by
  have ky : env.kindOf y = some .local := hy
  have hb : env.blockKind = .function := by unfold Env.blockKind; rw [hk]; rfl
  unfold swapsWith
  simp only [hb, ky, ha, Expr.pos, hl]
  rfl
end
end L2
namespace Pv
open PySem PySem.Spec PyProof.Rows L2
section
variable {X : Cx} {N : Hp} {z : Ev} {pos : Pos} {K : PySem.W.Frag}
/-- the new dict at L holds acc -/
def Di (K : PySem.W.Frag) (N : Hp) (p1 pB : Ph) (env : Env) (μ : Store) (σ : L2.St) (L : Addr) (acc : List (D × D)) (H : Hp) : Prop :=
  ∃ q as, q.H = H ∧ SR K N q env μ σ ∧ Step p1 q ∧ Le pB q ∧ q.W L = some .tmp ∧ q.H L = some (.dK as) ∧ FzKV K q acc as
theorem Di.put {p1 pB : Ph} {env : Env} {μ : Store} {σ : L2.St} {L : Addr} {acc : List (D × D)} {H : Hp} {s : List Nat} {d : D} {v : V} (h : Di K N p1 pB env μ σ L acc H) (hL : p1.H L = none) (hd : ∀ p, Fz K p d v) (hz : acc.length < big) :
    ∃ as, H L = some (.dK as) ∧ as.length < sizeLine ∧ Di K N p1 pB env μ σ L (dput acc (D.str s) d) (upd H L (.dK (putK as (.inr (toStr s)) v))) := by
  obtain ⟨q, as, rfl, sr, st, le, w, hH, f⟩ := h
  have pt := sr.putT (o := .dK (putK as (.inr (toStr s)) v)) w trivial
  refine ⟨as, hH, by rw [← f.length]; exact hz, ⟨q.θ, q.W, upd q.H L (.dK (putK as (.inr (toStr s)) v))⟩, _, rfl, pt.1, ⟨st.th, fun a o q1 w1 => ?_, fun a q1 => ?_⟩, le.trans pt.2, w, upd_same, FzKV.le pt.2 _ _ (FzKV.put (k := D.str s) rfl (hd q) f)⟩
  · have ne : a ≠ L := fun e => by rw [e, hL] at q1; cases q1
    have := st.keep a o q1 w1
    exact ⟨(upd_ne ne).trans this.1, this.2⟩
  · by_cases ne : a = L
    · subst ne; show upd q.H a _ a ≠ none; rw [upd_same]; exact fun z => nomatch z
    · show upd q.H L _ a ≠ none
      rw [upd_ne ne]; exact st.dom a q1
theorem fz_seq {pB q : Ph} {l : List D} {v : V} (f : Fz K pB (.tup l) v) (le : Le pB q) : ∃ a vs, v = .ref a ∧ SqT K q.H a vs ∧ FzL K q l vs := by
  obtain ⟨a, vs, e, zt, fl⟩ := Fz.le le (.tup l) v f
  exact ⟨a, vs, e, zt.elim .inr fun z => .inl z.2, fl⟩
theorem fzL_len {p : Ph} : ∀ {l : List D} {vs : List V}, FzL K p l vs → vs.length = l.length
  | [], vs, h => by rw [show vs = [] from h]; rfl
  | x :: r, vs, h => by
    obtain ⟨v, ws, rfl, _, t⟩ := h
    simp [fzL_len t]
theorem take_snoc {α : Type} {l : List α} {m : Nat} {x : α} (h : l[m]? = some x) : l.take (m + 1) = l.take m ++ [x] := by
  rw [List.take_succ, h]; rfl
theorem wipe_set {σ : L2.St} {k : Nat} {v : Option V} {own : List Nat} (h : k ∈ own) : L2.wipe (σ.set k v) own = L2.wipe σ own :=
  wipe_but (vs := [k]) ⟨List.length_set, fun j hj => List.getElem?_set_ne (fun e => hj (by rw [e]; exact List.mem_singleton_self _))⟩ (fun v hv => by rw [List.mem_singleton.mp hv]; exact h)
theorem gName_eq {i : Nat} {v : V} {σ : L2.St} {H : Hp} {Q : L2.St → Hp → Prop} : gName i v σ H Q = Q (σ.set i (some v)) H := rfl
/-- the last clause -/
theorem d3_in {p1 pB : Ph} {env : Env} {μ : Store} {σ0 σ2 : L2.St} {L : Addr} {j k : Nat} {l : List (List Nat)} {v w : V} {d : D} {acc : List (D × D)} {H : Hp} {Q : L2.St → Hp → Prop} (hL : p1.H L = none) (hd : ∀ p, Fz K p d w)
    (hk : k < σ2.length) (ev : σ2[j]? = some (some v)) (f : Fz K pB (.tup (l.map D.str)) v) (h0 : Di K N p1 pB env μ σ0 L acc H) (hz : ∀ m, m < l.length → ((l.take m).foldl (fun acc s => dput acc (D.str s) d) acc).length < big)
    (hq : ∀ H', Di K N p1 pB env μ σ0 L (l.foldl (fun acc s => dput acc (D.str s) d) acc) H' → Q (L2.wipe σ2 [k]) H') :
    tCl (iTup K (tVar j)) (gName k) (tPut L (tVar k) (L2.tC w)) [k] σ2 H Q := by
  have sq : ∀ {acc' H'}, Di K N p1 pB env μ σ0 L acc' H' → ∃ a vs, v = .ref a ∧ SqT K H' a vs ∧ vs.length = l.length ∧ ∀ m s, l[m]? = some s → vs[m]? = some (V.str (toStr s)) := fun h => by
    obtain ⟨q, as, rfl, sr, st, le, _⟩ := h
    obtain ⟨a, vs, e, s, fl⟩ := fz_seq f le
    refine ⟨a, vs, e, s, by rw [fzL_len fl, List.length_map], fun m s hs => ?_⟩
    obtain ⟨x, ex, zx⟩ := fl.get (i := m) (d := D.str s) (by rw [List.getElem?_map, hs]; rfl)
    obtain rfl : x = V.str (toStr s) := zx
    exact ex
  obtain ⟨a, vs0, rfl, s0, l0, g0⟩ := sq h0
  have sq' : ∀ {acc' H'}, Di K N p1 pB env μ σ0 L acc' H' → ∃ vs, SqT K H' a vs ∧ vs.length = l.length ∧ ∀ m s, l[m]? = some s → vs[m]? = some (V.str (toStr s)) := fun h => by
    obtain ⟨a', vs, e, r⟩ := sq h
    cases e
    exact ⟨vs, r⟩
  refine ⟨_, ev, a, rfl, ⟨vs0, s0⟩, fun m n H => n = l.length - m ∧ m ≤ l.length ∧ Di K N p1 pB env μ σ0 L ((l.take m).foldl (fun acc s => dput acc (D.str s) d) acc) H, ⟨_, rfl, Nat.zero_le _, h0⟩, ?_⟩
  rintro m n H ⟨rfl, hm, hD⟩
  obtain ⟨vs, s, hl, hg⟩ := sq' hD
  by_cases hlt : m < l.length
  · have e1 : l[m]? = some l[m] := List.getElem?_eq_getElem hlt
    refine .inr ⟨⟨vs, _, s, hg m _ e1⟩, fun H' => Di K N p1 pB env μ σ0 L ((l.take (m + 1)).foldl (fun acc s => dput acc (D.str s) d) acc) H', fun H' h' => ⟨_, Nat.sub_lt_sub_left hlt (Nat.lt_succ_self m), rfl, hlt, h'⟩, fun x H' hy => ?_⟩
    obtain ⟨rfl, hx⟩ := hy
    have ex := hx vs s
    rw [hg m _ e1] at ex; cases ex
    have el : ((L2.wipe σ2 [k]).set k (some (V.str (toStr l[m]))))[k]? = some (some (.str (toStr l[m]))) := List.getElem?_set_self (by rw [wipe_length]; exact hk)
    refine ⟨_, el, ?_⟩
    obtain ⟨as, hA, hz', hP⟩ := hD.put (s := l[m]) hL hd (hz m hlt)
    refine ⟨as, .inr (toStr l[m]), rfl, hA, hz', (wipe_set (List.mem_singleton_self k)).trans wipe_wipe, ?_⟩
    rw [take_snoc e1, List.foldl_append]
    exact hP
  · have e : m = l.length := by omega
    subst e
    rw [List.take_length] at hD
    exact .inl ⟨⟨vs, s, by omega⟩, hq _ hD⟩
theorem wipe_sub {σ : L2.St} {o1 own : List Nat} (h : ∀ v ∈ o1, v ∈ own) : L2.wipe (L2.wipe σ o1) own = L2.wipe σ own := by
  refine List.ext_getElem? fun j => ?_
  rw [wipe_get (L2.wipe σ o1) own j, wipe_length, wipe_get σ own j]
  by_cases hj : j ∈ own ∧ j < σ.length
  · rw [if_pos hj, if_pos hj]
  · rw [if_neg hj, if_neg hj, wipe_get]
    by_cases hk : j ∈ o1 ∧ j < σ.length
    · exact absurd ⟨h j hk.1, hk.2⟩ hj
    · rw [if_neg hk]
theorem dput_len {acc : List (D × D)} {k d : D} : (dput acc k d).length ≤ acc.length + 1 := by
  unfold dput
  split
  · simp
  · simp
theorem fold_len {d : D} : ∀ (l : List (List Nat)) (acc : List (D × D)), (l.foldl (fun acc s => dput acc (D.str s) d) acc).length ≤ acc.length + l.length
  | [], acc => Nat.le_refl _
  | s :: r, acc => by
    have h1 := fold_len (d := d) r (dput acc (D.str s) d)
    have h2 := dput_len (acc := acc) (k := D.str s) (d := d)
    show (r.foldl _ (dput acc (D.str s) d)).length ≤ _
    rw [List.length_cons]; omega
/-- the middle clause -/
theorem d3_mid {p1 pB : Ph} {env : Env} {μ : Store} {σ0 σ2 : L2.St} {L : Addr} {i j k : Nat} {ls : List (List (List Nat))} {v w : V} {d : D} {acc : List (D × D)} {H : Hp} {Q : L2.St → Hp → Prop} (hL : p1.H L = none) (hd : ∀ p, Fz K p d w)
    (hk : k < σ2.length) (hj : j < σ2.length) (ev : σ2[i]? = some (some v)) (f : Fz K pB (.tup (ls.map fun l => D.tup (l.map D.str))) v) (h0 : Di K N p1 pB env μ σ0 L acc H) (hz : acc.length + ls.flatten.length ≤ big)
    (hq : ∀ H', Di K N p1 pB env μ σ0 L (ls.flatten.foldl (fun acc s => dput acc (D.str s) d) acc) H' → Q (L2.wipe σ2 [j, k]) H') :
    tCl (iTup K (tVar i)) (gName j) (tCl (iTup K (tVar j)) (gName k) (tPut L (tVar k) (L2.tC w)) [k]) [j, k] σ2 H Q := by
  obtain ⟨a, vs, rfl, zt, fl⟩ := f
  have sq : ∀ {acc' H'}, Di K N p1 pB env μ σ0 L acc' H' → SqT K H' a vs := fun h => by
    obtain ⟨q, as, rfl, sr, st, le, _⟩ := h
    exact zt.elim .inr fun z => .inl (le.rd z.1 z.2).2
  have hl : vs.length = ls.length := by rw [fzL_len fl, List.length_map]
  refine ⟨_, ev, a, rfl, ⟨vs, sq h0⟩, fun m n H => n = ls.length - m ∧ m ≤ ls.length ∧ Di K N p1 pB env μ σ0 L ((ls.take m).flatten.foldl (fun acc s => dput acc (D.str s) d) acc) H, ⟨_, rfl, Nat.zero_le _, h0⟩, ?_⟩
  rintro m n H ⟨rfl, hm, hD⟩
  have s := sq hD
  by_cases hlt : m < ls.length
  · have e1 : ls[m]? = some ls[m] := List.getElem?_eq_getElem hlt
    obtain ⟨x, ex, zx⟩ := fl.get (i := m) (d := .tup (ls[m].map D.str)) (by rw [List.getElem?_map, e1]; rfl)
    have et : (ls.take (m + 1)).flatten = (ls.take m).flatten ++ ls[m] := by rw [take_snoc e1, List.flatten_append]; simp
    have hlen : (ls.take m).flatten.length + ls[m].length ≤ ls.flatten.length := by
      have : ls.flatten = (ls.take (m + 1)).flatten ++ (ls.drop (m + 1)).flatten := by rw [← List.flatten_append, List.take_append_drop]
      rw [this, et, List.length_append, List.length_append]; omega
    refine .inr ⟨⟨vs, _, s, ex⟩, fun H' => Di K N p1 pB env μ σ0 L ((ls.take (m + 1)).flatten.foldl (fun acc s => dput acc (D.str s) d) acc) H', fun H' h' => ⟨_, Nat.sub_lt_sub_left hlt (Nat.lt_succ_self m), rfl, hlt, h'⟩, fun y H' hy => ?_⟩
    obtain ⟨rfl, hx⟩ := hy
    have ey := hx vs s
    rw [ex] at ey; cases ey
    have el : ((L2.wipe σ2 [j, k]).set j (some x))[j]? = some (some x) := List.getElem?_set_self (by rw [wipe_length]; exact hj)
    rw [gName_eq]
    refine d3_in hL hd (by rw [List.length_set, wipe_length]; exact hk) el zx hD (fun m' hm' => ?_) fun H3 h3 => ⟨?_, ?_⟩
    · have h1 := fold_len (d := d) (ls[m].take m') ((ls.take m).flatten.foldl (fun acc s => dput acc (D.str s) d) acc)
      have h2 := fold_len (d := d) (ls.take m).flatten acc
      have h3 : (ls[m].take m').length ≤ m' := by rw [List.length_take]; omega
      have h4 : ((ls[m].take m').foldl (fun acc s => dput acc (D.str s) d) ((ls.take m).flatten.foldl (fun acc s => dput acc (D.str s) d) acc)).length < big := by omega
      exact h4
    · rw [wipe_sub (fun v hv => by rw [List.mem_singleton.mp hv]; simp), wipe_set (by simp)]
      exact wipe_wipe
    · rw [et, List.foldl_append]; exact h3
  · have e : m = ls.length := by omega
    subst e
    rw [List.take_length] at hD
    exact .inl ⟨⟨vs, s, by omega⟩, hq _ hD⟩
theorem d3_read {K : PySem.W.Frag} {z : Ev} {it : I} {σ : L2.St} {H : Hp} {Q : VK} {own : List Nat} {i j k : Nat} {d : D} {w : V} (hd : ∀ p, Fz K p d w) (ho : own = [i, j, k]) (hi : i < σ.length → j < σ.length ∧ k < σ.length) (hi0 : i < σ.length)
    (h : tE K N z (.dflat3 own it d) σ H Q) :
    tDn (tI K N z it) (gName i) (fun L => tCl (iTup K (tVar i)) (gName j) (tCl (iTup K (tVar j)) (gName k) (tPut L (tVar k) (L2.tC w)) [k]) [j, k]) own σ H Q := by
  obtain ⟨p, env, μ, Po, rfl, sr, hw, post⟩ := h
  refine ⟨p, env, μ, _, rfl, sr, hw, fun ds env0 μ0 p1 J h0 sr0 st0 wk => fun L hL => ?_⟩
  obtain ⟨hout, wss, rfl, hz, h0⟩ := h0
  obtain ⟨hj, hk⟩ := hi hi0
  have n := new_dic (K := K) (p := p1) (ds := []) (vs := []) hL rfl
  have srB := (sr0.ext n.1).wipeB own
  refine ⟨fun m n H => ∃ pB, Di K N p1 pB (wipeE env0 own) μ0 (L2.wipe σ own) L ((wss.take m).flatten.flatten.foldl (fun acc s => dput acc (D.str s) d) []) H ∧ n = wss.length - m ∧ m ≤ wss.length,
    ⟨_, p1, ⟨_, [], rfl, srB, n.1.step, n.1.step.le, updW_same, upd_same, rfl⟩, rfl, Nat.zero_le _⟩, ?_⟩
  rintro m n' H1 ⟨pB, ⟨q, as, rfl, sr1, st1, le1, w1, hL1, f1⟩, rfl, hm⟩
  by_cases hlt : m < wss.length
  · have e1 : wss[m]? = some wss[m] := List.getElem?_eq_getElem hlt
    obtain ⟨go, yl⟩ := (wk m q st1).2 (.tup (wss[m].map fun l => D.tup (l.map D.str))) (by rw [List.getElem?_map, e1]; rfl)
    have et : (wss.take (m + 1)).flatten.flatten = (wss.take m).flatten.flatten ++ wss[m].flatten := by rw [take_snoc e1, List.flatten_append, List.flatten_append]; simp
    have hlen : (wss.take m).flatten.flatten.length + wss[m].flatten.length ≤ wss.flatten.flatten.length := by
      have : wss.flatten = (wss.take (m + 1)).flatten ++ (wss.drop (m + 1)).flatten := by rw [← List.flatten_append, List.take_append_drop]
      rw [this, List.flatten_append, et, List.length_append, List.length_append]; omega
    refine .inr ⟨go, fun H' => ∃ pB, Di K N p1 pB (wipeE env0 own) μ0 (L2.wipe σ own) L ((wss.take (m + 1)).flatten.flatten.foldl (fun acc s => dput acc (D.str s) d) []) H', fun H' ⟨pB', h'⟩ => ⟨_, Nat.sub_lt_sub_left hlt (Nat.lt_succ_self m), pB', h', rfl, hlt⟩, fun y H' hy => ?_⟩
    obtain ⟨p3, rfl, ext, fz⟩ := yl y H' hy
    have k3 := ext.keep L _ hL1
    have el : ((L2.wipe σ own).set i (some y))[i]? = some (some y) := List.getElem?_set_self (by rw [wipe_length]; exact hi0)
    have D3 : Di K N p1 p3 (wipeE env0 own) μ0 (L2.wipe σ own) L ((wss.take m).flatten.flatten.foldl (fun acc s => dput acc (D.str s) d) []) p3.H :=
      ⟨p3, as, rfl, sr1.ext ext, st1.trans ext.step, Loos.refl.le, k3.2.trans w1, k3.1, FzKV.le ext.step.le _ _ f1⟩
    have hfl := fold_len (d := d) (wss.take m).flatten.flatten []
    rw [gName_eq]
    refine d3_mid hL hd (by rw [List.length_set, wipe_length]; exact hk) (by rw [List.length_set, wipe_length]; exact hj) el fz D3 (by simp only [List.length_nil] at hfl; omega) fun H4 h4 => ⟨?_, p3, ?_⟩
    · subst ho
      rw [wipe_sub (fun v hv => by simp at hv ⊢; exact .inr hv), wipe_set (by simp)]
      exact wipe_wipe
    · rw [et, List.foldl_append]; exact h4
  · have e : m = wss.length := by omega
    subst e
    rw [List.take_length] at f1
    refine .inl ⟨(wk _ q st1).1 (by rw [List.length_map]; exact Nat.le_refl _), post .fresh _ _ μ0 q _ h0 (sr0.backB st1.le sr1 hout) (st0.trans st1) ⟨L, as, rfl, ⟨w1, hL1, ?_⟩, f1⟩⟩
    cases q' : p.H L with
    | none => rfl
    | some u => exact absurd hL (st0.dom L (by rw [q']; exact fun z => nomatch z))
/-- {c: v for a in ea for b in a for c in b}, v a constant -/
theorem pv_dflat3 {a b c : Str} {pa pb pc pa2 pb2 pc2 : Pos} {iter vx : Expr} {it : I} {d : D} {w : V} {scope : Scope} {own : List (Str × Nat)} {i j k : Nat} (hc : X.calm = true) (hN : X.N.Nodup) (hd : ∀ p, Fz X.K p d w) (ho : own.map (·.2) = [i, j, k])
    (hi : PI X (.Name a pa) iter (tI X.K N z it)) (ok : BlkOk X.N X.env.scope scope own)
    (hg0 : ∀ (s : Shared) (H : Hp) (C : Addr) (cl : List (Str × Addr)) (fp : List Addr), PG (X.blk s H scope (compEnvC scope cl C X.env) fp) (.Name a pa) (gName i))
    (hv1 : ∀ (s : Shared) (H : Hp) (C : Addr) (cl : List (Str × Addr)) (fp : List Addr), PE (X.blk s H scope (compEnvC scope cl C X.env) fp) (.Name a pa2) (tVar i))
    (hg1 : ∀ (s : Shared) (H : Hp) (C : Addr) (cl : List (Str × Addr)) (fp : List Addr), PG (X.blk s H scope (compEnvC scope cl C X.env) fp) (.Name b pb) (gName j))
    (hv2 : ∀ (s : Shared) (H : Hp) (C : Addr) (cl : List (Str × Addr)) (fp : List Addr), PE (X.blk s H scope (compEnvC scope cl C X.env) fp) (.Name b pb2) (tVar j))
    (hg2 : ∀ (s : Shared) (H : Hp) (C : Addr) (cl : List (Str × Addr)) (fp : List Addr), PG (X.blk s H scope (compEnvC scope cl C X.env) fp) (.Name c pc) (gName k))
    (hv3 : ∀ (s : Shared) (H : Hp) (C : Addr) (cl : List (Str × Addr)) (fp : List Addr), PE (X.blk s H scope (compEnvC scope cl C X.env) fp) (.Name c pc2) (tVar k))
    (he : ∀ (s : Shared) (H : Hp) (C : Addr) (cl : List (Str × Addr)) (fp : List Addr), PE (X.blk s H scope (compEnvC scope cl C X.env) fp) vx (L2.tC w))
    (hl : i < X.N.length ∧ j < X.N.length ∧ k < X.N.length) (hs : ∀ x, foldedSetIterable iter X.env x = pure x := by intro _; rfl) :
    PE X (.DictComp (.Name c pc2) vx [⟨.Name a pa, iter, [], 0⟩, ⟨.Name b pb, .Name a pa2, [], 0⟩, ⟨.Name c pc, .Name b pb2, [], 0⟩] scope pos) (tE X.K N z (.dflat3 [i, j, k] it d)) := by
  have base := pe_dc3 (i1 := .Name a pa2) (i2 := .Name b pb2) (w1 := iTup X.K (tVar i)) (w2 := iTup X.K (tVar j)) (pos := pos) (vs1 := [j, k]) (vs2 := [k]) hc hN hi ok hg0 (fun s H C cl fp => pi_tup (hv1 s H C cl fp)) hg1 (fun s H C cl fp => pi_tup (hv2 s H C cl fp)) hg2 hv3 he hs
  rw [ho] at base
  refine ⟨fun pins s σ H Q I h => base.run pins s σ H Q I ?_⟩
  have hlen := I.len
  exact d3_read hd rfl (fun _ => ⟨by rw [hlen]; exact hl.2.1, by rw [hlen]; exact hl.2.2⟩) (by rw [hlen]; exact hl.1) h
theorem pvs_setDflat3 {a b c : Str} {pa pb pc pa2 pb2 pc2 : Pos} {iter vx : Expr} {it : I} {d : D} {w : V} {scope : Scope} {own : List (Str × Nat)} {i j k n : Nat} {y : Str} {py spos : Pos} {C : CallFn} {G : String → Option D} (hc : X.calm = true) (hN : X.N.Nodup) (hy : X.N[n]? = some y) (hyl : X.env.scope.names.lookup y = some .local)
    (hsw : swapsWith (.DictComp (.Name c pc2) vx [⟨.Name a pa, iter, [], 0⟩, ⟨.Name b pb, .Name a pa2, [], 0⟩, ⟨.Name c pc, .Name b pb2, [], 0⟩] scope pos) (some (.Name y py)) spos.line X.env = pure true) (hd : ∀ p, Fz X.K p d w) (ho : own.map (·.2) = [i, j, k])
    (hi : PI X (.Name a pa) iter (tI X.K N ⟨C, G, noX⟩ it)) (ok : BlkOk X.N X.env.scope scope own)
    (hg0 : ∀ (s : Shared) (H : Hp) (C : Addr) (cl : List (Str × Addr)) (fp : List Addr), PG (X.blk s H scope (compEnvC scope cl C X.env) fp) (.Name a pa) (gName i))
    (hv1 : ∀ (s : Shared) (H : Hp) (C : Addr) (cl : List (Str × Addr)) (fp : List Addr), PE (X.blk s H scope (compEnvC scope cl C X.env) fp) (.Name a pa2) (tVar i))
    (hg1 : ∀ (s : Shared) (H : Hp) (C : Addr) (cl : List (Str × Addr)) (fp : List Addr), PG (X.blk s H scope (compEnvC scope cl C X.env) fp) (.Name b pb) (gName j))
    (hv2 : ∀ (s : Shared) (H : Hp) (C : Addr) (cl : List (Str × Addr)) (fp : List Addr), PE (X.blk s H scope (compEnvC scope cl C X.env) fp) (.Name b pb2) (tVar j))
    (hg2 : ∀ (s : Shared) (H : Hp) (C : Addr) (cl : List (Str × Addr)) (fp : List Addr), PG (X.blk s H scope (compEnvC scope cl C X.env) fp) (.Name c pc) (gName k))
    (hv3 : ∀ (s : Shared) (H : Hp) (C : Addr) (cl : List (Str × Addr)) (fp : List Addr), PE (X.blk s H scope (compEnvC scope cl C X.env) fp) (.Name c pc2) (tVar k))
    (he : ∀ (s : Shared) (H : Hp) (C : Addr) (cl : List (Str × Addr)) (fp : List Addr), PE (X.blk s H scope (compEnvC scope cl C X.env) fp) vx (L2.tC w))
    (hl : i < X.N.length ∧ j < X.N.length ∧ k < X.N.length) (hs : ∀ x, foldedSetIterable iter X.env x = pure x := by intro _; rfl) :
    PS X (.Assign [.Name y py] (.DictComp (.Name c pc2) vx [⟨.Name a pa, iter, [], 0⟩, ⟨.Name b pb, .Name a pa2, [], 0⟩, ⟨.Name c pc, .Name b pb2, [], 0⟩] scope pos) spos) (tS X.K N C G (.assign (.var n) (.dflat3 [i, j, k] it d))) := by
  have base := ps_setDc3 (i1 := .Name a pa2) (i2 := .Name b pb2) (w1 := iTup X.K (tVar i)) (w2 := iTup X.K (tVar j)) (pos := pos) (vs1 := [j, k]) (vs2 := [k]) hc hN hy hyl hsw hi ok hg0 (fun s H C cl fp => pi_tup (hv1 s H C cl fp)) hg1 (fun s H C cl fp => pi_tup (hv2 s H C cl fp)) hg2 hv3 he hs
  rw [ho] at base
  refine psImpI base fun D σ H hlen h => ?_
  obtain ⟨p, env, μ, E, rfl, sr, hw, ok'⟩ := h
  have hw : wpE C G E.xc (.dflat3 [i, j, k] it d) env μ fun k d env μ => giveT (.var n) k d env fun env => E.nx env μ := hw
  rw [ok'.xc] at hw
  refine d3_read hd rfl (fun _ => ⟨by rw [hlen]; exact hl.2.1, by rw [hlen]; exact hl.2.2⟩) (by rw [hlen]; exact hl.1) ⟨p, env, μ, _, rfl, sr, hw, fun k d env1 μ1 p1 v h1 sr1 st1 vr1 => ?_⟩
  obtain ⟨env', p', hr, e, le, sr', st'⟩ := give_ok sr1 st1 (by rw [sr1.len, hlen]; exact (List.getElem?_eq_some_iff.mp hy).1) sr.dom vr1 (show give n k d env1 fun env => E.nx env μ1 from h1)
  have := ok'.nx env' μ1 p' _ hr sr' st'
  rw [e] at this
  exact this
end
end Pv

set_option autoImplicit false
set_option linter.all false
set_option Elab.async false
set_option maxRecDepth 100000
namespace Pv
open PySem PySem.Spec PyProof.Rows L2
open PySem.W
section
variable {K : PySem.W.Frag} {p p' p1 : Ph} {N : Hp} {env : Env} {μ : Store} {σ : L2.St}
/-- the items of a locked dict are walked -/
theorem wk_items {a : Addr} {kvs : List (D × D)} {ps : List (Key × V)} {od : PySem.Obj} (w : p.W a = none) (h : p.H a = some (.frz od (.dK ps))) (f : FzKV K p kvs ps) : Wk K (Iti a od ps) p (kvs.map fun q => .tup [q.1, q.2]) := fun i q s => by
  obtain ⟨e1, e2⟩ := s.keep a _ h (by rw [w]; rfl)
  obtain ⟨l1, l2⟩ := kv_at (FzKV.le s.le _ _ f)
  refine ⟨fun hl => ⟨e1, by rw [l1]; simpa using hl⟩, fun d hd => ?_⟩
  rw [List.getElem?_map] at hd
  cases hk : kvs[i]? with
  | none => rw [hk] at hd; cases hd
  | some y =>
    rw [hk] at hd
    obtain rfl : D.tup [y.1, y.2] = d := Option.some.inj hd
    obtain ⟨k, v, h1, h2, h3⟩ := l2 i y hk
    refine ⟨⟨e1, (List.getElem?_eq_some_iff.mp h1).1⟩, fun x H' hy => ?_⟩
    obtain ⟨T, k', v', h4, rfl, hT, rfl⟩ := hy
    rw [h1] at h4; cases h4
    have n := new_tup (K := K) (ds := [y.1, y.2]) (vs := [kV k, v]) hT ⟨_, _, rfl, h2, _, _, rfl, h3, rfl⟩
    exact ⟨_, rfl, n.1, n.2⟩
/-- a dict is let go again -/
theorem unlock {a : Addr} {ps : List (Key × V)} {od : PySem.Obj} (r : p.H a = some (.dK ps)) (w : p.W a = none) (st : Step ⟨p.θ, p.W, upd p.H a (.frz od (.dK ps))⟩ p') :
    p'.H a = some (.frz od (.dK ps)) ∧ Lk p' ⟨p'.θ, p'.W, upd p'.H a (.dK ps)⟩ ∧ Step p ⟨p'.θ, p'.W, upd p'.H a (.dK ps)⟩ := by
  obtain ⟨k1, k2⟩ := st.keep a _ upd_same (by show stay (p.W a) = true; rw [w]; rfl)
  have w' : p'.W a = none := k2.trans w
  have lk2 := lk_off k1 w'
  refine ⟨k1, lk2, fun n b q => st.th n b q, fun b o q s => ?_, fun b q => lk2.dom b (st.dom b ((lk_on (od := od) r w).dom b q))⟩
  by_cases hb : b = a
  · subst hb
    rw [r] at q
    exact ⟨by show upd p'.H b (.dK ps) b = some o; rw [upd_same]; exact q, k2⟩
  · obtain ⟨z1, z2⟩ := st.keep b o ((upd_ne hb).trans q) s
    exact ⟨(upd_ne hb).trans z1, z2⟩
theorem RV.lk (s : Lk p p') {l : Nat} {d : D} {v : V} (h : RV K N p l d v) : RV K N p' l d v := by
  match l, h with
  | 0, h => exact Fz.lk s _ _ h
  | l + 1, h => obtain ⟨o, ho, h⟩ := h; exact ⟨o, ho, Ow.lk s h⟩
/-- a statement's ends while a dict is locked -/
theorem EOk.lock {a : Addr} {ps : List (Key × V)} {od : PySem.Obj} {Dn : L2.Ends} {E : Pv.Ends} (ok : EOk K N p Dn E) (r : p.H a = some (.dK ps)) (w : p.W a = none) :
    EOk K N ⟨p.θ, p.W, upd p.H a (.frz od (.dK ps))⟩ ⟨fun σ' H' => H' a = some (.frz od (.dK ps)) ∧ Dn.nx σ' (upd H' a (.dK ps)), fun v H' => H' a = some (.frz od (.dK ps)) ∧ Dn.rt v (upd H' a (.dK ps)), fun σ' H' => H' a = some (.frz od (.dK ps)) ∧ Dn.bk σ' (upd H' a (.dK ps)), fun σ' H' => H' a = some (.frz od (.dK ps)) ∧ Dn.ct σ' (upd H' a (.dK ps))⟩ E := by
  refine ⟨fun e m q s h sr st => ?_, fun l d m q v e s h sr st rv => ?_, fun e m q s h sr st => ?_, fun e m q s h sr st => ?_, ok.xc⟩
  · obtain ⟨k, lk, st'⟩ := unlock r w st
    exact ⟨k, ok.nx e m _ s h (sr.lk lk) st'⟩
  · obtain ⟨k, lk, st'⟩ := unlock r w st
    exact ⟨k, ok.rt l d m _ v e s h (sr.lk lk) st' (rv.lk lk)⟩
  · obtain ⟨k, lk, st'⟩ := unlock r w st
    exact ⟨k, ok.bk e m _ s h (sr.lk lk) st'⟩
  · obtain ⟨k, lk, st'⟩ := unlock r w st
    exact ⟨k, ok.ct e m _ s h (sr.lk lk) st'⟩
end
section
variable {X : Cx} {N : Hp} {z : Ev} {pos px : Pos} {elt : Expr} {ea : E} {t : T} {ifs : List Expr} {conds : List E}
/-- a comprehension over the items of a dict that a name holds -/
theorem pv_lcI {elts : List Expr} {kk : Nat} {tpos apos cpos : Pos} {scope : Scope} {own : List (Str × Nat)} {i : Nat} {x : Str} (hc : X.calm = true) (hN : X.N.Nodup) (hx : X.N[i]? = some x) (hvis : Vis X.env.scope x) (ok : BlkOk X.N X.env.scope scope own) (hv : ∀ v ∈ varsT t, v ∈ own.map (·.2))
    (hg : ∀ (s : Shared) (H : Hp) (C : Addr) (cl : List (Str × Addr)) (fp : List Addr), PG (X.blk s H scope (compEnvC scope cl C X.env) fp) (.Tuple elts kk tpos) (gT X.K N t)) (ht : ∀ (s : Shared) (H : Hp) (C : Addr) (cl : List (Str × Addr)) (fp : List Addr), PTs (X.blk s H scope (compEnvC scope cl C X.env) fp) ifs (tC X.K N ⟨z.C, z.G, noX⟩ conds))
    (he : ∀ (s : Shared) (H : Hp) (C : Addr) (cl : List (Str × Addr)) (fp : List Addr), PE (X.blk s H scope (compEnvC scope cl C X.env) fp) elt (tE X.K N ⟨z.C, z.G, noX⟩ ea)) (hd : (x == ("__debug__" : Str)) = false := by decide) (hcd : (x == ("__classdict__" : Str)) = false := by decide) (hbase : attributeBase (.Name x px) "items" X.env (eval (.Name x px) X.env) = eval (.Name x px) X.env := by rfl) (hline : (apos.endLine == cpos.line) = true := by rfl) (hs : ∀ y, foldedSetIterable (.Call (.Attribute (.Name x px) "items" apos) [] [] cpos) X.env y = pure y := by intro _; rfl) :
    PE X (.ListComp elt [⟨.Tuple elts kk tpos, .Call (.Attribute (.Name x px) "items" apos) [] [] cpos, ifs, 0⟩] scope pos) (tE X.K N z (.comp (own.map (·.2)) ea t (.items (.var i)) conds)) := by
  refine peImp (pe_or (pe_lc hc hN (pi_items (pe_var hx hvis hd hcd) hbase hline) ok hg ht he hs)) fun σ H Q h => ?_
  obtain ⟨p, env, μ, Po, rfl, sr, hw, post⟩ := h
  obtain ⟨l, d, e, kvs, rfl, hw⟩ := hw
  obtain ⟨v, ev, vs⟩ := sr.slot i l _ e
  have vr : VR X.K p p env μ σ (if l = 0 then .fz else .bor i) (.dic kvs) v := by
    cases l with
    | zero => exact vs
    | succ l => exact ⟨l, e, ev⟩
  obtain ⟨env1, p1, h1, eH, lo, sr1, st1, fz⟩ := esc_ok sr .refl vr hw
  obtain ⟨a, ps, rfl, ⟨w, r⟩, f⟩ := fz
  obtain ⟨hout, h0⟩ := h1
  rcases r with r | ⟨od, r⟩
  · refine .inr ⟨a, .dK ps, by rw [← eH]; exact r, trivial, fun od => ?_⟩
    have lk := lk_on (od := od) r w
    have sr2 := sr1.lk lk
    have f2 := FzKV.lk lk _ _ f
    rw [← eH]
    refine ⟨.ref a, ev, a, od, ps, rfl, upd_same, ?_⟩
    refine lc_tail (p := ⟨p1.θ, p1.W, upd p1.H a (.frz od (.dK ps))⟩) (p1 := ⟨p1.θ, p1.W, upd p1.H a (.frz od (.dK ps))⟩) (J := Iti a od ps) (Q := fun v H' => H' a = some (.frz od (.dK ps)) ∧ Q v (upd H' a (.dK ps))) hv sr2 .refl (wk_items w upd_same f2) hout h0 fun d env' μ' p' v hp sr' st' vr' => ?_
    obtain ⟨k1, k2⟩ := st'.keep a _ upd_same (by show stay (p1.W a) = true; rw [w]; rfl)
    have w' : p'.W a = none := k2.trans w
    have lk2 := lk_off k1 w'
    refine ⟨k1, post .fresh d env' μ' _ v hp (sr'.lk lk2) ⟨fun n b q => st'.th n b (st1.th n b q), fun b o q s => ?_, fun b q => lk2.dom b (st'.dom b (lk.dom b (st1.dom b q)))⟩ (Ow.low (fun b q => ?_) (Ow.lk lk2 vr'))⟩
    · obtain ⟨y1, y2⟩ := st1.keep b o q s
      by_cases hb : b = a
      · subst hb
        rw [r] at y1
        exact ⟨by show upd p'.H b (.dK ps) b = some o; rw [upd_same]; exact y1, w'.trans (w.symm.trans y2)⟩
      · obtain ⟨z1, z2⟩ := st'.keep b o ((upd_ne hb).trans y1) (by show stay (p1.W b) = true; rw [y2]; exact s)
        exact ⟨(upd_ne hb).trans z1, z2.trans y2⟩
    · have hb : b ≠ a := fun z => by
        subst z
        have q : upd p1.H b (.frz od (.dK ps)) b = none := q
        rw [upd_same] at q; cases q
      have q : upd p1.H a (.frz od (.dK ps)) b = none := q
      rw [upd_ne hb] at q
      rw [← eH]; exact q
  · rw [← eH]
    refine .inl ⟨.ref a, ev, a, od, ps, rfl, r, ?_⟩
    refine lc_tail (p := p1) (p1 := p1) (J := Iti a od ps) (Q := Q) hv sr1 .refl (wk_items w r f) hout h0 fun d env' μ' p' v hp sr' st' vr' => ?_
    exact post .fresh d env' μ' p' v hp sr' (st1.trans st') (Ow.low (fun b q => by rw [← eH]; exact q) vr')
/-- x[y], two names, the member of a dict -/
def tIxD (i j : Nat) : TE := fun σ H Q => ∃ a y w, σ[i]? = some (some (.ref a)) ∧ σ[j]? = some (some y) ∧ DGet H a y (some w) ∧ Q w H
theorem pe_ixD {i j : Nat} {ax bx : Expr} (hu : X.A.units + 1 < cLine) (ha : PE X ax (tVar i)) (hb : PE X bx (tVar j)) (hs : PlainIx bx) : PE X (.Subscript ax bx pos) (tIxD i j) := by
  refine ⟨fun pins s σ H Q I h => ?_⟩
  obtain ⟨a, y, w, e1, e2, g, q⟩ := h
  refine Subscript_ (thn (ha.run pins s σ H (fun v H1 => v = .ref a ∧ H1 = H) I ⟨_, e1, rfl, rfl⟩) fun u s1 ⟨v, H1, I1, r1, ev, eH⟩ => ?_)
  subst ev eH
  refine thn (hb.run pins s1 σ _ (fun v2 H2 => v2 = y ∧ H2 = H1) I1 ⟨_, e2, rfl, rfl⟩) fun u2 s2 ⟨w2, H2, I2, r2, e3, e4⟩ => ?_
  subst e3 e4
  obtain rfl : u = Value.ref a := r1
  exact tail_any (dict_typeIs I2 g) PySem.F.slot_dict_getitem.lookup (d_getItem hu I2 g r2 fun w' s3 I3 rw' => ⟨w, _, I3, rw', q⟩) (hs _ _)
/-- a loop, its walk begun -/
theorem for_tail {K : PySem.W.Frag} {C : CallFn} {G : String → Option D} {body : List S} {dead : List Nat} {σ : L2.St} {Dn : L2.Ends} {E : Pv.Ends} {p1 : Ph} {env0 : Env} {μ0 : Store} {ds : List D} {J : It} (sr0 : SR K N p1 env0 μ0 σ) (wk : Wk K J p1 ds) (ok : EOk K N p1 Dn E)
    (h0 : forLoop (fun x env1 μ1 K => giveT t .fz x env1 fun env2 => wpSs C G body { E with nx := fun e3 μ3 => K (wipeE e3 dead) μ3, ct := fun e3 μ3 => K (wipeE e3 dead) μ3, bk := fun e3 μ3 => E.nx (wipeE e3 dead) μ3, xc := fun _ _ _ => False } env2 μ1) ds (wipeE env0 dead) μ0 E.nx) :
    ∃ W : Nat → Nat → L2.St → Hp → Prop, (∃ m, W 0 m σ p1.H) ∧ ∀ i m σ H, W i m σ H →
      (J.stop i H ∧ Dn.nx σ H) ∨ (J.go i H ∧ ∃ Nx : L2.St → Hp → Prop, (∀ σ' H', Nx σ' H' → ∃ m', m' < m ∧ W (i + 1) m' σ' H') ∧ ∀ x H', J.yld i H x H' → gT K N t x σ H' fun σ2 H2 => tSs K N C G body { Dn with nx := Nx, ct := Nx, bk := Dn.nx } σ2 H2) := by
  refine ⟨fun i m σ H => ∃ p env μ, p.H = H ∧ SR K N p env μ σ ∧ Step p1 p ∧ (m = ds.length - i ∧ i ≤ ds.length) ∧ forLoop (fun x env1 μ1 K => giveT t .fz x env1 fun env2 => wpSs C G body { E with nx := fun e3 μ3 => K (wipeE e3 dead) μ3, ct := fun e3 μ3 => K (wipeE e3 dead) μ3, bk := fun e3 μ3 => E.nx (wipeE e3 dead) μ3, xc := fun _ _ _ => False } env2 μ1) (ds.drop i) env μ E.nx,
    ⟨_, p1, wipeE env0 dead, μ0, rfl, sr0.wipe dead, .refl, ⟨rfl, Nat.zero_le _⟩, h0⟩, ?_⟩
  rintro i m σ1 H1 ⟨p2, env1, μ1, rfl, sr1, st1, ⟨rfl, hi⟩, hw1⟩
  cases hd : ds.drop i with
  | nil =>
    have hl : ds.length ≤ i := by
      have := congrArg List.length hd
      simp at this
      omega
    rw [hd] at hw1
    exact .inl ⟨(wk i p2 st1).1 hl, ok.nx env1 μ1 p2 σ1 hw1 sr1 st1⟩
  | cons x rest =>
    obtain ⟨hx, hr⟩ := drop_cons hd
    have hlt : i < ds.length := (List.getElem?_eq_some_iff.mp hx).1
    rw [hd] at hw1
    obtain ⟨go, yl⟩ := (wk i p2 st1).2 x hx
    refine .inr ⟨go, _, fun σ' H' h' => ⟨ds.length - (i + 1), by omega, h'⟩, fun y H' hy => ?_⟩
    obtain ⟨p3, rfl, ext, fz⟩ := yl y H' hy
    have s13 := st1.trans ext.step
    refine ⟨p3, p3, env1, μ1, .fz, x, _, rfl, sr1.ext ext, .refl, (sr1.ext ext).dom, fz, hw1, fun env4 p4 σ4 h4 sr4 st4 _ _ _ => ⟨p4, env4, μ1, _, rfl, sr4, h4, ?_, ?_, ?_, ?_, rfl⟩⟩
    · exact fun env5 μ5 p5 σ5 h5 sr5 st5 => ⟨p5, wipeE env5 dead, μ5, rfl, sr5.wipe dead, s13.trans (st4.trans st5), ⟨rfl, hlt⟩, by rw [hr]; exact h5⟩
    · exact fun l d μ5 p5 v env5 σ5 h5 sr5 st5 rv => ok.rt l d μ5 p5 v env5 σ5 h5 sr5 (s13.trans (st4.trans st5)) rv
    · exact fun env5 μ5 p5 σ5 h5 sr5 st5 => ok.nx _ μ5 p5 σ5 h5 (sr5.wipe dead) (s13.trans (st4.trans st5))
    · exact fun env5 μ5 p5 σ5 h5 sr5 st5 => ⟨p5, wipeE env5 dead, μ5, rfl, sr5.wipe dead, s13.trans (st4.trans st5), ⟨rfl, hlt⟩, by rw [hr]; exact h5⟩
theorem ps_or {st : Stmt} {t : TS} (h : PS X st t) : PS X st (fun Dn σ H => t Dn σ H ∨ tLock t Dn σ H) := ⟨fun pins s σ H Dn I q => q.elim (h.run pins s σ H Dn I) ((ps_lock h).run pins s σ H Dn I)⟩
/-- for .. in x[y].items(), two names -/
theorem pvs_forI {C : CallFn} {G : String → Option D} {body : List S} {sb : List Stmt} {dead : List Nat} {i j : Nat} {ax bx : Expr} {elts : List Expr} {kk : Nat} {tpos apos cpos p2 : Pos} (hu : X.A.units + 1 < cLine) (hp : PassesOwn (model X.prog X.w) X.A X.env X.xe) (hc : X.calm = true) (ha : PE X ax (tVar i)) (hb : PE X bx (tVar j)) (hsx : PlainIx bx)
    (hg : PG X (.Tuple elts kk tpos) (gT X.K N t)) (hbd : PSs X sb (tSs X.K N C G body)) (hbase : attributeBase (.Subscript ax bx p2) "items" X.env (eval (.Subscript ax bx p2) X.env) = eval (.Subscript ax bx p2) X.env := by rfl) (hline : (apos.endLine == cpos.line) = true := by rfl)
    (hs : ∀ x, foldedSetIterable (.Call (.Attribute (.Subscript ax bx p2) "items" apos) [] [] cpos) X.env x = pure x := by intro _; rfl) :
    PS X (.For (.Tuple elts kk tpos) (.Call (.Attribute (.Subscript ax bx p2) "items" apos) [] [] cpos) sb [] pos) (tS X.K N C G (.for_ dead t (.itemsAt i j) body)) := psImp (ps_or (ps_for hp hc (pi_items (pe_ixD hu ha hb hsx) hbase hline) hg hbd hs)) fun Dn σ H h => by
  obtain ⟨p, env, μ, E, rfl, sr, hw, ok⟩ := h
  have hw : wpI C G E.xc (.itemsAt i j) env μ fun xs env μ =>
      forLoop (fun x env1 μ1 K => giveT t .fz x env1 fun env2 => wpSs C G body { E with nx := fun e3 μ3 => K (wipeE e3 dead) μ3, ct := fun e3 μ3 => K (wipeE e3 dead) μ3, bk := fun e3 μ3 => E.nx (wipeE e3 dead) μ3 } env2 μ1)
        xs (wipeE env dead) μ E.nx := hw
  rw [ok.xc] at hw
  obtain ⟨l, kvs, l', y, kvs', ⟨hi, hj⟩, ky, hg', hw⟩ := hw
  have an : ∀ {i l d}, env[i]? = some (some (l, d)) → ∃ v, σ[i]? = some (some v) ∧ An X.K p d v := fun {i l d} e => by
    obtain ⟨v, ev, vs⟩ := sr.slot i l d e
    have vr : VR X.K p p env μ σ (if l = 0 then .fz else .bor i) d v := by
      cases l with
      | zero => exact vs
      | succ l => exact ⟨l, e, ev⟩
    exact ⟨v, ev, vr.an sr⟩
  obtain ⟨v, ev, a, ps, rfl, zr, f⟩ := an hi
  obtain ⟨yv, ey, ay⟩ := an hj
  obtain ⟨k, hk⟩ := isKey_of ky
  have e3 := key_an hk ay
  obtain ⟨w, ew, b, ps', rfl, ⟨wb, rb⟩, f'⟩ := (f.find hk).1 _ hg'
  rcases rb with rb | ⟨od, rb⟩
  · refine .inr ⟨b, .dK ps', rb, trivial, fun od => ?_⟩
    have lk := lk_on (od := od) rb wb
    refine ⟨a, yv, .ref b, ev, ey, .inl ⟨ps, k, lk.rd a _ (fun _ _ e => nomatch e) zr, e3, ew.symm⟩, b, od, ps', rfl, upd_same, ?_⟩
    exact for_tail (p1 := ⟨p.θ, p.W, upd p.H b (.frz od (.dK ps'))⟩) (J := Iti b od ps') (sr.lk lk) (wk_items wb upd_same (FzKV.lk lk _ _ f')) (ok.lock rb wb) hw
  · refine .inl ⟨a, yv, .ref b, ev, ey, .inl ⟨ps, k, zr, e3, ew.symm⟩, b, od, ps', rfl, rb, ?_⟩
    exact for_tail (J := Iti b od ps') sr (wk_items wb rb f') ok hw
end
end Pv

set_option autoImplicit false
set_option linter.all false
set_option maxRecDepth 10000
/-! Pv: reckoning weakest preconditions. -/
namespace Pv
section
variable {C : CallFn} {G : String → Option D} {X : XPost} {env : Env} {μ : Store} {Q : Post}
theorem wpE_lit {d : D} : wpE C G X (.lit d) env μ Q = Q .fz d env μ := rfl
theorem wpE_var {i : Nat} : wpE C G X (.var i) env μ Q = ∃ l d, env[i]? = some (some (l, d)) ∧ Q (if l = 0 then .fz else .bor i) d env μ := rfl
theorem wpE_glob {x : String} : wpE C G X (.glob x) env μ Q = ∃ d, G x = some d ∧ Q .fz d env μ := rfl
theorem wpE_tup {es : List E} : wpE C G X (.tup es) env μ Q = wpL C G X es env μ fun ds env μ => Q .fz (.tup ds) env μ := rfl
theorem wpE_lst {es : List E} : wpE C G X (.lst es) env μ Q = wpL C G X es env μ fun ds env μ => Q .fresh (.lst ds) env μ := rfl
theorem wpE_dnew : wpE C G X .dnew env μ Q = Q .fresh (.dic []) env μ := rfl
theorem wpE_dict {ks : List D} {es : List E} : wpE C G X (.dict ks es) env μ Q = wpL C G X es env μ fun ds env μ => Q .fresh (.dic (ks.zip ds)) env μ := rfl
theorem wpE_lrange {a : E} : wpE C G X (.lrange a) env μ Q = wpE C G X a env μ fun _ x env μ => ∃ j, x = .int j ∧ (-4611686018427387904 ≤ j ∧ j < 16777216) ∧ Q .fresh (.lst (rangeL 0 j.toNat)) env μ := rfl
theorem wpE_sset {a : E} : wpE C G X (.sset a) env μ Q = wpE C G X a env μ fun _ x env μ => ssetP x fun d => Q .fresh d env μ := rfl
theorem wpE_ssetS {a : E} : wpE C G X (.ssetS a) env μ Q = wpE C G X a env μ fun _ x env μ => ssetSP x fun d => Q .fresh d env μ := rfl
theorem wpE_state {fs : List (List Nat × E)} : wpE C G X (.state fs) env μ Q = wpF C G X fs env μ fun fs env μ => Q .fz (.ref μ.length) env (μ ++ [⟨"dict", fs⟩]) := rfl
theorem wpE_neg {a : E} : wpE C G X (.neg a) env μ Q = wpE C G X a env μ fun _ x env μ => ∃ i, x = .int i ∧ Q .fz (.int (-i)) env μ := rfl
theorem wpE_bin {op : BOp} {a b : E} : wpE C G X (.bin op a b) env μ Q = wpE C G X a env μ fun k x env μ => wpE C G X b env μ fun _ y env' μ' => kept k env env' μ μ' ∧ bin op x y fun d => Q (kindOf d) d env' μ' := rfl
theorem wpE_cmp {op : COp} {a b : E} : wpE C G X (.cmp op a b) env μ Q = wpE C G X a env μ fun k x env μ => wpE C G X b env μ fun _ y env' μ' => kept k env env' μ μ' ∧ cmpP op x y fun c => Q .fz (.bl c) env' μ' := rfl
theorem wpE_chain {op op' : COp} {a b c : E} : wpE C G X (.chain op op' a b c) env μ Q = wpE C G X a env μ fun k x env μ => wpE C G X b env μ fun k' y env' μ' => kept k env env' μ μ' ∧ cmpP op x y fun t =>
      if t = true then wpE C G X c env' μ' fun _ z env'' μ'' => kept k' env' env'' μ' μ'' ∧ cmpP op' y z fun u => Q .fz (.bl u) env'' μ'' else Q .fz (.bl false) env' μ' := rfl
theorem wpE_and {a b : E} : wpE C G X (.and_ a b) env μ Q = wpE C G X a env μ fun k x env μ => tru x fun t => if t = true then wpE C G X b env μ Q else Q k x env μ := rfl
theorem wpE_or {a b : E} : wpE C G X (.or_ a b) env μ Q = wpE C G X a env μ fun k x env μ => tru x fun t => if t = true then Q k x env μ else wpE C G X b env μ Q := rfl
theorem wpE_not {a : E} : wpE C G X (.not_ a) env μ Q = wpE C G X a env μ fun _ x env μ => tru x fun t => Q .fz (.bl (!t)) env μ := rfl
theorem wpE_ite {c a b : E} : wpE C G X (.ite c a b) env μ Q = wpE C G X c env μ fun _ x env μ => tru x fun t => if t = true then wpE C G X a env μ Q else wpE C G X b env μ Q := rfl
theorem wpE_idx {a k : E} : wpE C G X (.idx a k) env μ Q = wpE C G X a env μ fun ka x env μ => wpE C G X k env μ fun _ y env' μ' => kept ka env env' μ μ' ∧ idxP x y μ' fun kd d => Q kd d env' μ' := rfl
theorem wpE_slice {a : E} {lo hi : Option E} : wpE C G X (.slice a lo hi) env μ Q = wpE C G X a env μ fun ka x env μ => wpO C G X lo env μ fun l env1 μ1 => ∃ i, optI l = some i ∧ wpO C G X hi env1 μ1 fun h env2 μ2 => ∃ j, optI h = some j ∧ kept ka env env2 μ μ2 ∧ sliceP x i j fun d => Q (kindOf d) d env2 μ2 := rfl
theorem wpE_rev {a : E} : wpE C G X (.rev a) env μ Q = wpE C G X a env μ fun _ x env μ => revP x fun d => Q (kindOf d) d env μ := rfl
theorem wpE_stepS {a s : E} : wpE C G X (.stepS a s) env μ Q = wpE C G X a env μ fun k x env μ => wpE C G X s env μ fun _ y env' μ' => kept k env env' μ μ' ∧ ∃ l i, (x = .lst l ∧ y = .int i) ∧ ((i = 1 ∧ Q .fresh (.lst l) env' μ') ∨ (i = -1 ∧ Q .fresh (.lst l.reverse) env' μ')) := rfl
theorem wpE_call {f : String} {ls : List Bool} {es : List E} : wpE C G X (.call f ls es) env μ Q = wpA C G X ls es env μ fun ds env μ => C f ds μ (fun l d μ' => Q (if l = 0 then .fz else .fresh) d env μ') (fun x μ' => X x env μ') := rfl
theorem wpE_blt {f : Bl} {es : List E} : wpE C G X (.blt f es) env μ Q = wpB C G X es env μ fun ds env μ => bltP f ds fun d => Q (kindOf d) d env μ := rfl
theorem wpE_dget {a k : E} : wpE C G X (.dget a k) env μ Q = wpE C G X a env μ fun ka x env μ => ∃ kvs, x = .dic kvs ∧ wpE C G X k env μ fun _ y env1 μ1 => kept ka env env1 μ μ1 ∧ isKey y = true ∧ Q .fz ((dget kvs y).getD .non) env1 μ1 := rfl
theorem wpE_dget2 {a k d : E} : wpE C G X (.dget2 a k d) env μ Q = wpE C G X a env μ fun ka x env μ => ∃ kvs, x = .dic kvs ∧ wpE C G X k env μ fun _ y env1 μ1 => wpE C G X d env1 μ1 fun kd w env2 μ2 => esc kd env2 fun env3 =>
      kept ka env env3 μ μ2 ∧ isKey y = true ∧ Q .fz ((dget kvs y).getD w) env3 μ2 := rfl
theorem wpE_mut {m : Mu} {i : Nat} {es : List E} : wpE C G X (.mut m i es) env μ Q = ∃ l0, env[i]? = some (some (1, .lst l0)) ∧ wpL C G X es env μ fun ds env μ => ∃ l, env[i]? = some (some (1, .lst l)) ∧ mutP m l ds fun l' r => Q .fz r (env.set i (some (1, .lst l'))) μ := rfl
theorem wpE_mutF {m : Mu} {i : Nat} {f : List Nat} : wpE C G X (.mutF m i f) env μ Q = ∃ n o l, env[i]? = some (some (0, .ref n)) ∧ μ[n]? = some o ∧ o.cls = "dict" ∧ getF o f = some (1, .lst l) ∧ mutP m l [] fun l' r => Q .fz r env (μ.set n (setF o f (1, .lst l'))) := rfl
theorem wpE_comp {own : List Nat} {elt : E} {t : T} {it : I} {conds : List E} : wpE C G X (.comp own elt t it conds) env μ Q = wpI C G X it env μ fun xs env μ => outOk env own = true ∧
      compLoop (fun x env1 μ1 K => giveT t .fz x env1 fun env2 => wpC C G (fun _ _ _ => False) conds env2 μ1 fun c env3 μ3 =>
        if c = true then wpE C G (fun _ _ _ => False) elt env3 μ3 fun kd d env4 μ4 => esc kd env4 fun env5 => K (some d) (wipeE env5 own) μ4
        else K none (wipeE env3 own) μ3)
        xs [] (wipeE env own) μ fun acc env' μ' => Q .fresh (.lst acc) (back env env' own) μ' := rfl
theorem wpE_dict1 {k v : E} : wpE C G X (.dict1 k v) env μ Q = wpE C G X k env μ fun _ x env μ => wpE C G X v env μ fun kd d env μ => esc kd env fun env => isKey x = true ∧ Q .fresh (.dic [(x, d)]) env μ := rfl
theorem wpE_dflat3 {own : List Nat} {it : I} {d : D} : wpE C G X (.dflat3 own it d) env μ Q = wpI C G X it env μ fun xs env μ => outOk env own = true ∧ ∃ wss : List (List (List (List Nat))), xs = wss.map (fun ls => D.tup (ls.map fun l => D.tup (l.map .str))) ∧ wss.flatten.flatten.length < big ∧
      Q .fresh (.dic (wss.flatten.flatten.foldl (fun acc s => dput acc (.str s) d) [])) (back env (wipeE env own) own) μ := rfl
theorem wpE_dcomp {own : List Nat} {ek ev : E} {t : T} {it : I} {conds : List E} : wpE C G X (.dcomp own ek ev t it conds) env μ Q = wpI C G X it env μ fun xs env μ => outOk env own = true ∧
      dcompLoop (fun x env1 μ1 K => giveT t .fz x env1 fun env2 => wpC C G (fun _ _ _ => False) conds env2 μ1 fun c env3 μ3 =>
        if c = true then wpE C G (fun _ _ _ => False) ek env3 μ3 fun _ y env4 μ4 => wpE C G (fun _ _ _ => False) ev env4 μ4 fun kd d env5 μ5 => esc kd env5 fun env6 => isKey y = true ∧ K (some (y, d)) (wipeE env6 own) μ5
        else K none (wipeE env3 own) μ3)
        xs [] (wipeE env own) μ fun acc env' μ' => Q .fresh (.dic acc) (back env env' own) μ' := rfl
theorem wpE_dvals {a : E} : wpE C G X (.dvals a) env μ Q = wpE C G X a env μ fun _ x env μ => ∃ kvs, x = .dic kvs ∧ Q .fresh (.lst (kvs.map (·.2))) env μ := rfl
theorem wpE_indexOf {a k : E} : wpE C G X (.indexOf a k) env μ Q = wpE C G X a env μ fun ka x env μ => ∃ l, x = .lst l ∧ wpE C G X k env μ fun _ y env' μ' => kept ka env env' μ μ' ∧ ∃ j : Nat, plain y 60 = true ∧ plainL l 59 = true ∧ l.findIdx? (pyEq · y) = some j ∧ Q .fz (.int (j : Int)) env' μ' := rfl
theorem wpE_tupS {bs : List Bool} {es : List E} : wpE C G X (.tupS bs es) env μ Q = wpLS C G X bs es env μ fun ds env μ => ds.length ≤ big ∧ Q .fz (.tup ds) env μ := rfl
theorem wpE_lstS {bs : List Bool} {es : List E} : wpE C G X (.lstS bs es) env μ Q = wpLS C G X bs es env μ fun ds env μ => ds.length ≤ big ∧ Q .fresh (.lst ds) env μ := rfl
theorem wpE_isInst {a : E} {ts : List String} : wpE C G X (.isInst a ts) env μ Q = wpE C G X a env μ fun _ x env μ => ∃ u, tyOf x = some u ∧ Q .fz (.bl (ts.any (isTy u ·))) env μ := rfl
theorem wpE_gget {x : String} {k : E} : wpE C G X (.gget x k) env μ Q = wpE C G X k env μ fun _ y env μ => ∃ kvs s, G x = some (.dic kvs) ∧ y = .str s ∧ Q .fz ((dget kvs y).getD .non) env μ := rfl
theorem wpE_gget2 {x : String} {k d : E} : wpE C G X (.gget2 x k d) env μ Q = wpE C G X k env μ fun _ y env μ => wpE C G X d env μ fun kd w env μ => esc kd env fun env => ∃ kvs s, G x = some (.dic kvs) ∧ y = .str s ∧ Q .fz ((dget kvs y).getD w) env μ := rfl
theorem wpE_gidx {x : String} {k : E} : wpE C G X (.gidx x k) env μ Q = wpE C G X k env μ fun _ y env μ => ∃ kvs s d, G x = some (.dic kvs) ∧ y = .str s ∧ dget kvs y = some d ∧ Q .fz d env μ := rfl
theorem wpE_gmem {neg : Bool} {x : String} {k : E} : wpE C G X (.gmem neg x k) env μ Q = wpE C G X k env μ fun _ y env μ => ∃ kvs s, G x = some (.dic kvs) ∧ y = .str s ∧ Q .fz (.bl (xor neg (dget kvs y).isSome)) env μ := rfl
theorem wpE_gcd {a b : E} : wpE C G X (.gcd a b) env μ Q = wpE C G X a env μ fun _ x env μ => wpE C G X b env μ fun _ y env μ => ∃ i j, (x = .int i ∧ y = .int j) ∧ Q .fz (.int ((Nat.gcd i.natAbs j.natAbs : Nat) : Int)) env μ := rfl
theorem wpLS_nil {bs : List Bool} {Q : List D → Env → Store → Prop} : wpLS C G X bs [] env μ Q = Q [] env μ := by cases bs <;> rfl
theorem wpLS_star {bs : List Bool} {e : E} {r : List E} {Q : List D → Env → Store → Prop} : wpLS C G X (true :: bs) (e :: r) env μ Q = wpE C G X e env μ fun k x env μ => ∃ l, itemsOf x = some l ∧ wpLS C G X bs r env μ fun xs env μ => Q (l ++ xs) env μ := rfl
theorem wpLS_one {bs : List Bool} {e : E} {r : List E} {Q : List D → Env → Store → Prop} : wpLS C G X (false :: bs) (e :: r) env μ Q = wpE C G X e env μ fun k x env μ => esc k env fun env => wpLS C G X bs r env μ fun xs env μ => Q (x :: xs) env μ := rfl
theorem wpE_lrange2 {a b : E} {Q : Kd → D → Env → Store → Prop} : wpE C G X (.lrange2 a b) env μ Q = wpE C G X a env μ fun _ x env μ => wpE C G X b env μ fun _ y env μ => ∃ i j, (x = .int i ∧ y = .int j) ∧ (j - i).toNat ≤ 8388608 ∧ Q .fresh (.lst (rangeL i (j - i).toNat)) env μ := rfl
theorem wpE_denum2 {a b : E} {Q : Kd → D → Env → Store → Prop} : wpE C G X (.denum2 a b) env μ Q = wpE C G X a env μ fun _ x env μ => wpE C G X b env μ fun _ y env μ => ∃ i j, (x = .int i ∧ y = .int j) ∧ (0 ≤ i ∧ i ≤ 8388608 ∧ 0 ≤ j ∧ j ≤ 8388608) ∧ Q .fresh (.dic (enumL i (j - i).toNat)) env μ := rfl
theorem wpI_rngL {a b : E} {Q : List D → Env → Store → Prop} : wpI C G X (.rngL a b) env μ Q = wpE C G X a env μ fun _ x env μ => wpE C G X b env μ fun _ y env μ => ∃ i j, (x = .int i ∧ y = .int j) ∧ Q (rangeL i (j - i).toNat) env μ := rfl
theorem wpI_rngD {a b : E} {Q : List D → Env → Store → Prop} : wpI C G X (.rngD a b) env μ Q = wpE C G X a env μ fun _ x env μ => wpE C G X b env μ fun _ y env μ => ∃ i j, (x = .int i ∧ y = .int j) ∧ (-4611686018427387904 ≤ i ∧ i < 4611686018427387904 ∧ -4611686018427387904 ≤ j ∧ j < 4611686018427387904) ∧ Q (downL i (i - j).toNat) env μ := rfl
theorem wpI_zip {a b : E} {Q : List D → Env → Store → Prop} : wpI C G X (.zip a b) env μ Q = wpE C G X a env μ fun k x env μ => escI k env fun env => wpE C G X b env μ fun k' y env μ => escI k' env fun env =>
      ∃ l m, ((x = .lst l ∧ y = .lst m) ∨ (x = .tup l ∧ y = .tup m)) ∧ Q (List.zipWith (fun c d => .tup [c, d]) l m) env μ := rfl
theorem wpI_items {a : E} {Q : List D → Env → Store → Prop} : wpI C G X (.items a) env μ Q = wpE C G X a env μ fun k x env μ => ∃ l, x = .dic l ∧ esc k env fun env => Q (l.map fun q => .tup [q.1, q.2]) env μ := rfl
theorem wpI_itemsAt {i j : Nat} {Q : List D → Env → Store → Prop} : wpI C G X (.itemsAt i j) env μ Q = ∃ l kvs l' y kvs', (env[i]? = some (some (l, .dic kvs)) ∧ env[j]? = some (some (l', y))) ∧ isKey y = true ∧ dget kvs y = some (.dic kvs') ∧ Q (kvs'.map fun q => .tup [q.1, q.2]) env μ := rfl
theorem wpI_keys {a : E} {Q : List D → Env → Store → Prop} : wpI C G X (.keys a) env μ Q = wpE C G X a env μ fun k x env μ => ∃ l, x = .dic l ∧ esc k env fun env => Q (l.map (·.1)) env μ := rfl
theorem wpL_nil {Q : List D → Env → Store → Prop} : wpL C G X [] env μ Q = Q [] env μ := rfl
theorem wpL_cons {e : E} {r : List E} {Q : List D → Env → Store → Prop} : wpL C G X (e :: r) env μ Q = wpE C G X e env μ fun k x env μ => esc k env fun env => wpL C G X r env μ fun xs env μ => Q (x :: xs) env μ := rfl
theorem wpF_nil {Q : List (List Nat × Nat × D) → Env → Store → Prop} : wpF C G X [] env μ Q = Q [] env μ := rfl
theorem wpF_cons {f : List Nat} {e : E} {r : List (List Nat × E)} {Q : List (List Nat × Nat × D) → Env → Store → Prop} : wpF C G X ((f, e) :: r) env μ Q = wpE C G X e env μ fun k x env μ => esc k env fun env => wpF C G X r env μ fun xs env μ => Q ((f, (match k with | .fresh => 1 | _ => 0), x) :: xs) env μ := rfl
theorem wpA_nil {ls : List Bool} {Q : List D → Env → Store → Prop} : wpA C G X ls [] env μ Q = Q [] env μ := by cases ls <;> rfl
theorem wpA_lent {ls : List Bool} {e : E} {r : List E} {Q : List D → Env → Store → Prop} : wpA C G X (true :: ls) (e :: r) env μ Q = wpE C G X e env μ fun k x env μ => wpA C G X ls r env μ fun xs env' μ' => kept k env env' μ μ' ∧ Q (x :: xs) env' μ' := rfl
theorem wpA_fz {ls : List Bool} {e : E} {r : List E} {Q : List D → Env → Store → Prop} : wpA C G X (false :: ls) (e :: r) env μ Q = wpE C G X e env μ fun k x env μ => esc k env fun env => wpA C G X ls r env μ fun xs env μ => Q (x :: xs) env μ := rfl
theorem wpB_one {e : E} {Q : List D → Env → Store → Prop} : wpB C G X [e] env μ Q = wpE C G X e env μ fun k x env μ => Q [x] env μ := rfl
theorem wpB_cons {e e2 : E} {r : List E} {Q : List D → Env → Store → Prop} : wpB C G X (e :: e2 :: r) env μ Q = wpE C G X e env μ fun k x env μ => wpB C G X (e2 :: r) env μ fun xs env' μ' => kept k env env' μ μ' ∧ Q (x :: xs) env' μ' := rfl
theorem wpO_none {Q : Option D → Env → Store → Prop} : wpO C G X none env μ Q = Q none env μ := rfl
theorem wpO_some {e : E} {Q : Option D → Env → Store → Prop} : wpO C G X (some e) env μ Q = wpE C G X e env μ fun _ x env μ => Q (some x) env μ := rfl
theorem wpC_nil {Q : Bool → Env → Store → Prop} : wpC C G X [] env μ Q = Q true env μ := rfl
theorem wpC_cons {e : E} {r : List E} {Q : Bool → Env → Store → Prop} : wpC C G X (e :: r) env μ Q = wpE C G X e env μ fun _ x env μ => tru x fun t => if t = true then wpC C G X r env μ Q else Q false env μ := rfl
theorem wpI_seq {e : E} {Q : List D → Env → Store → Prop} : wpI C G X (.seq e) env μ Q = wpE C G X e env μ fun k x env μ => ∃ l, itemsOf x = some l ∧ escI k env fun env => Q l env μ := rfl
theorem wpI_rng {a : E} {Q : List D → Env → Store → Prop} : wpI C G X (.rng a) env μ Q = wpE C G X a env μ fun _ x env μ => ∃ j, x = .int j ∧ (-4611686018427387904 ≤ j ∧ j < 4611686018427387904) ∧ Q (rangeL 0 j.toNat) env μ := rfl
theorem wpI_rng2 {a b : E} {Q : List D → Env → Store → Prop} : wpI C G X (.rng2 a b) env μ Q = wpE C G X a env μ fun _ x env μ => wpE C G X b env μ fun _ y env μ => ∃ i j, (x = .int i ∧ y = .int j) ∧ (-4611686018427387904 ≤ i ∧ i < 4611686018427387904 ∧ -4611686018427387904 ≤ j ∧ j < 4611686018427387904) ∧ Q (rangeL i (j - i).toNat) env μ := rfl
theorem wpI_enum {e : E} {Q : List D → Env → Store → Prop} : wpI C G X (.enum e) env μ Q = wpE C G X e env μ fun k x env μ => ∃ l, x = .lst l ∧ escI k env fun env => Q (l.mapIdx fun n d => .tup [.int (n : Int), d]) env μ := rfl
theorem wpP_nil {Q : List (Nat × D) → Env → Store → Prop} : wpP C G X [] env μ Q = Q [] env μ := rfl
theorem wpP_cons {e : E} {r : List E} {Q : List (Nat × D) → Env → Store → Prop} : wpP C G X (e :: r) env μ Q = wpE C G X e env μ fun k x env μ => esc k env fun env => wpP C G X r env μ fun xs env μ => Q (((match k with | .fresh => 1 | _ => 0), x) :: xs) env μ := rfl
variable {E : Ends}
theorem wpSs_nil : wpSs C G [] E env μ = E.nx env μ := rfl
theorem wpSs_cons {s : S} {r : List S} : wpSs C G (s :: r) E env μ = wpS C G s { E with nx := fun env μ => wpSs C G r E env μ } env μ := rfl
theorem wpS_expr {e : Pv.E} : wpS C G (.expr e) E env μ = wpE C G E.xc e env μ fun _ _ env μ => E.nx env μ := rfl
theorem wpS_assign {t : T} {e : Pv.E} : wpS C G (.assign t e) E env μ = wpE C G E.xc e env μ fun k d env μ => giveT t k d env fun env => E.nx env μ := rfl
theorem wpS_par {is : List Nat} {es : List Pv.E} : wpS C G (.par is es) E env μ = wpP C G E.xc es env μ fun ds env μ => E.nx ((is.zip ds).foldl (fun env p => env.set p.1 (some p.2)) env) μ := rfl
theorem wpS_setIdx {i : Nat} {k e : Pv.E} : wpS C G (.setIdx i k e) E env μ = wpE C G E.xc e env μ fun ke x env μ => esc ke env fun env => (∃ q, env[i]? = some (some q)) ∧ wpE C G E.xc k env μ fun _ y env μ =>
      (∃ d, env[i]? = some (some (1, d)) ∧ setP d y x fun d' => E.nx (env.set i (some (1, d'))) μ) ∨
      (∃ n o f l d, env[i]? = some (some (0, .ref n)) ∧ μ[n]? = some o ∧ o.cls = "dict" ∧ y = .str f ∧ getF o f = some (l, d) ∧ o.fs.length < big ∧ E.nx env (μ.set n (setF o f ((match ke with | .fresh => 1 | _ => 0), x)))) := rfl
theorem wpS_aug {i : Nat} {op : BOp} {e : Pv.E} : wpS C G (.aug i op e) E env μ = ∃ x, env[i]? = some (some (0, x)) ∧ wpE C G E.xc e env μ fun _ y env μ => (∃ p q, x = .int p ∧ y = .int q) ∧ bin op x y fun d => E.nx (env.set i (some (0, d))) μ := rfl
theorem wpS_retN : wpS C G (.ret none) E env μ = E.rt 0 .non μ := rfl
theorem wpS_ret {e : Pv.E} : wpS C G (.ret (some e)) E env μ = wpE C G E.xc e env μ fun k d env μ => retK k env d fun l d => E.rt l d μ := rfl
theorem wpS_ite {c : Pv.E} {a b : List S} : wpS C G (.ite c a b) E env μ = wpE C G E.xc c env μ fun _ x env μ => tru x fun t => if t = true then wpSs C G a E env μ else wpSs C G b E env μ := rfl
theorem wpS_for {dead : List Nat} {t : T} {it : I} {body : List S} : wpS C G (.for_ dead t it body) E env μ = wpI C G E.xc it env μ fun xs env μ =>
      forLoop (fun x env1 μ1 K => giveT t .fz x env1 fun env2 => wpSs C G body { E with nx := fun e3 μ3 => K (wipeE e3 dead) μ3, ct := fun e3 μ3 => K (wipeE e3 dead) μ3, bk := fun e3 μ3 => E.nx (wipeE e3 dead) μ3 } env2 μ1)
        xs (wipeE env dead) μ E.nx := rfl
theorem wpS_while {dead : List Nat} {c : Pv.E} {body : List S} : wpS C G (.while_ dead c body) E env μ = ∃ n, whileLoop (fun env1 μ1 K Nx => wpE C G E.xc c env1 μ1 fun _ x env2 μ2 => tru x fun t => if t = true then wpSs C G body { E with nx := fun e3 μ3 => Nx (wipeE e3 dead) μ3, ct := fun e3 μ3 => Nx (wipeE e3 dead) μ3, bk := fun e3 μ3 => K (wipeE e3 dead) μ3 } env2 μ2 else K env2 μ2)
        n (wipeE env dead) μ E.nx := rfl
theorem wpS_brk : wpS C G .brk E env μ = E.bk env μ := rfl
theorem wpS_cont : wpS C G .cont E env μ = E.ct env μ := rfl
theorem wpS_pass : wpS C G .pass E env μ = E.nx env μ := rfl
theorem giveT_var {i : Nat} {k : Kd} {d : D} {K : Env → Prop} : giveT (.var i) k d env K = give i k d env K := rfl
theorem giveT_tup {ts : List T} {k : Kd} {d : D} {K : Env → Prop} : giveT (.tup ts) k d env K = ∃ l, itemsOf d = some l ∧ l.length = ts.length ∧ giveL ts l env K := rfl
theorem giveL_nil {l : List D} {K : Env → Prop} : giveL [] l env K = (l = [] ∧ K env) := rfl
theorem giveL_cons {t : T} {ts : List T} {l : List D} {K : Env → Prop} : giveL (t :: ts) l env K = ∃ d r, l = d :: r ∧ giveT t .fz d env fun env => giveL ts r env K := rfl
theorem give_fz {i : Nat} {d : D} {K : Env → Prop} : give i .fz d env K = K (env.set i (some (0, d))) := rfl
theorem give_fresh {i : Nat} {d : D} {K : Env → Prop} : give i .fresh d env K = K (env.set i (some (1, d))) := rfl
theorem give_bor {i j : Nat} {d : D} {K : Env → Prop} : give i (.bor j) d env K = esc (.bor j) env fun env => K (env.set i (some (0, d))) := rfl
theorem esc_fz {K : Env → Prop} : esc .fz env K = K env := rfl
theorem esc_fresh {K : Env → Prop} : esc .fresh env K = K env := rfl
theorem esc_bor {i : Nat} {K : Env → Prop} : esc (.bor i) env K = ∃ d, env[i]? = some (some (1, d)) ∧ K (env.set i (some (0, d))) := rfl
theorem escI_fz {K : Env → Prop} : escI .fz env K = K env := rfl
theorem escI_fresh {K : Env → Prop} : escI .fresh env K = K env := rfl
theorem escI_bor {i : Nat} {K : Env → Prop} : escI (.bor i) env K = match env[i]? with
    | some (some (0, _)) => False
    | some (some (1, d)) => K (env.set i (some (0, d)))
    | some (some (_ + 2, _)) => K env
    | _ => False := rfl
theorem kept_fz {env' : Env} {μ' : Store} : kept .fz env env' μ μ' = True := rfl
theorem kept_fresh {env' : Env} {μ' : Store} : kept .fresh env env' μ μ' = True := rfl
theorem kept_bor {i : Nat} {env' : Env} {μ' : Store} : kept (.bor i) env env' μ μ' = (env'[i]? = env[i]?) := rfl
theorem callN_succ {P : Prog} {d : Nat} {f : String} {ds : List D} {R : Nat → D → Store → Prop} {Y : D → Store → Prop} : callN P (d + 1) f ds μ R Y = ∃ fd, P.fn f = some fd ∧ ds.length = fd.lent.length ∧
      wpSs (callN P d) P.gl fd.body { nx := fun _ μ' => R 0 .non μ', rt := R, bk := fun _ _ => False, ct := fun _ _ => False, xc := fun x _ μ' => Y x μ' } (start fd ds) μ := rfl
theorem retK_fz {d : D} {R : Nat → D → Prop} : retK .fz env d R = R 0 d := rfl
theorem retK_fresh {d : D} {R : Nat → D → Prop} : retK .fresh env d R = R 1 d := rfl
theorem retK_bor {i : Nat} {d : D} {R : Nat → D → Prop} : retK (.bor i) env d R = ((∃ d', env[i]? = some (some (1, d'))) ∧ R 1 d) := rfl
end
end Pv

set_option autoImplicit false
set_option linter.all false
set_option maxRecDepth 10000
/-! Pv: loops by invariants. -/
namespace Pv
theorem while_ok {body : Env → Store → (Env → Store → Prop) → (Env → Store → Prop) → Prop} {K : Env → Store → Prop} (I : Env → Store → Prop) (ms : Env → Store → Nat)
    (h : ∀ env μ Nx, I env μ → (∀ env' μ', I env' μ' → ms env' μ' < ms env μ → Nx env' μ') → body env μ K Nx) : ∀ n env μ, I env μ → ms env μ < n → whileLoop body n env μ K
  | 0, env, μ, _, l => absurd l (Nat.not_lt_zero _)
  | n + 1, env, μ, i, l => h env μ _ i fun env' μ' i' l' => while_ok I ms h n env' μ' i' (by omega)
/-- the same, with what is left to do behind the loop told by a word of the state -/
theorem while_post {body : Env → Store → (Env → Store → Prop) → (Env → Store → Prop) → Prop} {K : Env → Store → Prop} (I Post : Env → Store → Prop) (ms : Env → Store → Nat)
    (h : ∀ env μ K' Nx, I env μ → (∀ env' μ', Post env' μ' → K' env' μ') → (∀ env' μ', I env' μ' → ms env' μ' < ms env μ → Nx env' μ') → body env μ K' Nx) (e : ∀ env μ, Post env μ → K env μ) (env : Env) (μ : Store) (i : I env μ) : ∃ n, whileLoop body n env μ K :=
  ⟨ms env μ + 1, while_ok I ms (fun env μ Nx i hn => h env μ K Nx i e hn) _ env μ i (Nat.lt_succ_self _)⟩
theorem wpSs_append {C : CallFn} {G : String → Option D} : ∀ (a b : List S) (E : Ends) (env : Env) (μ : Store), wpSs C G (a ++ b) E env μ = wpSs C G a { E with nx := fun env μ => wpSs C G b E env μ } env μ
  | [], b, E, env, μ => rfl
  | s :: a, b, E, env, μ => by
    show wpS C G s { E with nx := fun env μ => wpSs C G (a ++ b) E env μ } env μ = wpS C G s { E with nx := fun env μ => wpSs C G a { E with nx := fun env μ => wpSs C G b E env μ } env μ } env μ
    congr 1
    congr 1
    funext env μ
    exact wpSs_append a b E env μ
theorem wpSs_split (n : Nat) {C : CallFn} {G : String → Option D} {b : List S} {E : Ends} {env : Env} {μ : Store} : wpSs C G b E env μ = wpSs C G (b.take n) { E with nx := fun env μ => wpSs C G (b.drop n) E env μ } env μ := by
  rw [← wpSs_append, List.take_append_drop]
theorem for_go {body : D → Env → Store → (Env → Store → Prop) → Prop} {K : Env → Store → Prop} (I : List D → List D → Env → Store → Prop)
    (h : ∀ pre x post env μ K', I pre (x :: post) env μ → (∀ env' μ', I (pre ++ [x]) post env' μ' → K' env' μ') → body x env μ K') (e : ∀ pre env μ, I pre [] env μ → K env μ) :
    ∀ xs pre env μ, I pre xs env μ → forLoop body xs env μ K
  | [], pre, env, μ, i => e pre env μ i
  | x :: xs, pre, env, μ, i => h pre x xs env μ _ i fun env' μ' i' => for_go I h e xs (pre ++ [x]) env' μ' i'
/-- the walked items: those behind, those ahead -/
theorem for_ok {body : D → Env → Store → (Env → Store → Prop) → Prop} {K : Env → Store → Prop} {xs : List D} {env : Env} {μ : Store} (I : List D → List D → Env → Store → Prop) (h0 : I [] xs env μ)
    (h : ∀ pre x post env μ K', I pre (x :: post) env μ → (∀ env' μ', I (pre ++ [x]) post env' μ' → K' env' μ') → body x env μ K') (e : ∀ pre env μ, I pre [] env μ → K env μ) : forLoop body xs env μ K :=
  for_go I h e xs [] env μ h0
theorem comp_go {step : D → Env → Store → (Option D → Env → Store → Prop) → Prop} {K : List D → Env → Store → Prop} (I : List D → List D → List D → Env → Store → Prop)
    (h : ∀ pre x post acc env μ K', I pre (x :: post) acc env μ → (∀ env' μ', I (pre ++ [x]) post acc env' μ' → K' none env' μ') → (∀ d env' μ', I (pre ++ [x]) post (acc ++ [d]) env' μ' → K' (some d) env' μ') → step x env μ K')
    (hl : ∀ pre x post acc env μ, I pre (x :: post) acc env μ → acc.length < big) (e : ∀ pre acc env μ, I pre [] acc env μ → K acc env μ) :
    ∀ xs pre acc env μ, I pre xs acc env μ → compLoop step xs acc env μ K
  | [], pre, acc, env, μ, i => e pre acc env μ i
  | x :: xs, pre, acc, env, μ, i => h pre x xs acc env μ _ i (fun env' μ' i' => comp_go I h hl e xs (pre ++ [x]) acc env' μ' i') fun d env' μ' i' => ⟨hl pre x xs acc env μ i, comp_go I h hl e xs (pre ++ [x]) (acc ++ [d]) env' μ' i'⟩
theorem comp_ok {step : D → Env → Store → (Option D → Env → Store → Prop) → Prop} {K : List D → Env → Store → Prop} {xs : List D} {env : Env} {μ : Store} (I : List D → List D → List D → Env → Store → Prop) (h0 : I [] xs [] env μ)
    (h : ∀ pre x post acc env μ K', I pre (x :: post) acc env μ → (∀ env' μ', I (pre ++ [x]) post acc env' μ' → K' none env' μ') → (∀ d env' μ', I (pre ++ [x]) post (acc ++ [d]) env' μ' → K' (some d) env' μ') → step x env μ K')
    (hl : ∀ pre x post acc env μ, I pre (x :: post) acc env μ → acc.length < big) (e : ∀ pre acc env μ, I pre [] acc env μ → K acc env μ) : compLoop step xs [] env μ K := comp_go I h hl e xs [] [] env μ h0
/-! ### what operators do, by cases -/
theorem tru_bl {b : Bool} {K : Bool → Prop} : tru (.bl b) K = K b := rfl
theorem tru_int {i : Int} {K : Bool → Prop} : tru (.int i) K = K (i != 0) := rfl
theorem tru_non {K : Bool → Prop} : tru .non K = K false := rfl
theorem tru_tup {l : List D} {K : Bool → Prop} : tru (.tup l) K = K (!l.isEmpty) := rfl
theorem tru_lst {l : List D} {K : Bool → Prop} : tru (.lst l) K = K (!l.isEmpty) := rfl
theorem tru_str {s : List Nat} {K : Bool → Prop} : tru (.str s) K = (s.length ≤ big ∧ K (!s.isEmpty)) := rfl
theorem bin_add_int {i j : Int} {K : D → Prop} : bin .add (.int i) (.int j) K = K (.int (i + j)) := rfl
theorem bin_sub_int {i j : Int} {K : D → Prop} : bin .sub (.int i) (.int j) K = K (.int (i - j)) := rfl
theorem bin_mul_int {i j : Int} {K : D → Prop} : bin .mul (.int i) (.int j) K = ((small i ∨ small j) ∧ K (.int (i * j))) := rfl
theorem bin_fdiv_int {i j : Int} {K : D → Prop} : bin .fdiv (.int i) (.int j) K = ((j ≠ 0 ∧ j.natAbs < 1073741824) ∧ K (.int (i.fdiv j))) := rfl
theorem bin_mod_int {i j : Int} {K : D → Prop} : bin .mod (.int i) (.int j) K = (j ≠ 0 ∧ K (.int (i.fmod j))) := rfl
theorem bin_pow_int {i j : Int} {K : D → Prop} : bin .pow (.int i) (.int j) K = ((0 ≤ j ∧ j ≤ 1000000 ∧ i.natAbs < 18446744073709551616) ∧ K (.int (i ^ j.toNat))) := rfl
theorem bin_add_str {s t : List Nat} {K : D → Prop} : bin .add (.str s) (.str t) K = (s.length + t.length ≤ big ∧ K (.str (s ++ t))) := rfl
theorem bin_add_lst {a b : List D} {K : D → Prop} : bin .add (.lst a) (.lst b) K = (a.length + b.length ≤ big ∧ K (.lst (a ++ b))) := rfl
theorem bin_add_tup {a b : List D} {K : D → Prop} : bin .add (.tup a) (.tup b) K = (a.length + b.length ≤ big ∧ K (.tup (a ++ b))) := rfl
theorem bin_mul_tup {a : List D} {j : Int} {K : D → Prop} : bin .mul (.tup a) (.int j) K = ((-1000 ≤ j ∧ j ≤ 1000 ∧ a.length ≤ 1000) ∧ K (.tup (List.replicate j.toNat a).flatten)) := rfl
theorem bin_mul_lst {a : List D} {j : Int} {K : D → Prop} : bin .mul (.lst a) (.int j) K = ((-16777216 < j ∧ j < 16777216) ∧ a.length * j.toNat ≤ big ∧ K (.lst (List.replicate j.toNat a).flatten)) := rfl
theorem cmp_lt_int {i j : Int} {K : Bool → Prop} : cmpP .lt (.int i) (.int j) K = K (decide (i < j)) := rfl
theorem cmp_le_int {i j : Int} {K : Bool → Prop} : cmpP .le (.int i) (.int j) K = K (decide (i ≤ j)) := rfl
theorem cmp_gt_int {i j : Int} {K : Bool → Prop} : cmpP .gt (.int i) (.int j) K = K (decide (j < i)) := rfl
theorem cmp_ge_int {i j : Int} {K : Bool → Prop} : cmpP .ge (.int i) (.int j) K = K (decide (j ≤ i)) := rfl
theorem cmp_lt_str {i j : List Nat} {K : Bool → Prop} : cmpP .lt (.str i) (.str j) K = K (!leS j i) := rfl
theorem cmp_le_str {i j : List Nat} {K : Bool → Prop} : cmpP .le (.str i) (.str j) K = K (leS i j) := rfl
theorem cmp_gt_str {i j : List Nat} {K : Bool → Prop} : cmpP .gt (.str i) (.str j) K = K (!leS i j) := rfl
theorem cmp_ge_str {i j : List Nat} {K : Bool → Prop} : cmpP .ge (.str i) (.str j) K = K (leS j i) := rfl
theorem cmp_eq_rep {a b : D} {K : Bool → Prop} : cmpP .eq (.rep a) (.rep b) K = (a = b ∧ K true) := rfl
theorem cmp_ne_rep {a b : D} {K : Bool → Prop} : cmpP .ne (.rep a) (.rep b) K = (a = b ∧ K false) := rfl
theorem cmp_eq_int {i j : Int} {K : Bool → Prop} : cmpP .eq (.int i) (.int j) K = (plain (.int i) 60 = true ∧ plain (.int j) 60 = true ∧ K ((i == j))) := rfl
theorem cmp_eq_str {i j : List Nat} {K : Bool → Prop} : cmpP .eq (.str i) (.str j) K = (okS i = true ∧ okS j = true ∧ K ((i == j))) := rfl
theorem cmp_eq_tup {a b : List D} {K : Bool → Prop} : cmpP .eq (.tup a) (.tup b) K = (plain (.tup a) 60 = true ∧ plain (.tup b) 60 = true ∧ K (pyEqL a b)) := rfl
theorem cmp_eq_lst {a b : List D} {K : Bool → Prop} : cmpP .eq (.lst a) (.lst b) K = (plain (.lst a) 60 = true ∧ plain (.lst b) 60 = true ∧ K (pyEqL a b)) := rfl
theorem cmp_eq_bl {a b : Bool} {K : Bool → Prop} : cmpP .eq (.bl a) (.bl b) K = (plain (.bl a) 60 = true ∧ plain (.bl b) 60 = true ∧ K ((a == b))) := rfl
theorem cmp_ne_int {i j : Int} {K : Bool → Prop} : cmpP .ne (.int i) (.int j) K = (plain (.int i) 60 = true ∧ plain (.int j) 60 = true ∧ K (!(i == j))) := rfl
theorem cmp_ne_str {i j : List Nat} {K : Bool → Prop} : cmpP .ne (.str i) (.str j) K = (okS i = true ∧ okS j = true ∧ K (!(i == j))) := rfl
theorem cmp_ne_tup {a b : List D} {K : Bool → Prop} : cmpP .ne (.tup a) (.tup b) K = (plain (.tup a) 60 = true ∧ plain (.tup b) 60 = true ∧ K (!pyEqL a b)) := rfl
theorem cmp_ne_lst {a b : List D} {K : Bool → Prop} : cmpP .ne (.lst a) (.lst b) K = (plain (.lst a) 60 = true ∧ plain (.lst b) 60 = true ∧ K (!pyEqL a b)) := rfl
theorem cmp_ne_bl {a b : Bool} {K : Bool → Prop} : cmpP .ne (.bl a) (.bl b) K = (plain (.bl a) 60 = true ∧ plain (.bl b) 60 = true ∧ K (!(a == b))) := rfl
theorem cmp_mem {x y : D} {K : Bool → Prop} : cmpP .mem x y K = memP x y K := rfl
theorem cmp_notMem {x y : D} {K : Bool → Prop} : cmpP .notMem x y K = (memP x y fun b => K (!b)) := rfl
theorem mem_tup {x : D} {l : List D} {K : Bool → Prop} : memP x (.tup l) K = (plain x 60 = true ∧ plainL l 60 = true ∧ K (l.any (pyEq · x))) := rfl
theorem mem_lst {x : D} {l : List D} {K : Bool → Prop} : memP x (.lst l) K = (plain x 60 = true ∧ plainL l 60 = true ∧ K (l.any (pyEq · x))) := rfl
theorem mem_dic {x : D} {kvs : List (D × D)} {K : Bool → Prop} : memP x (.dic kvs) K = (isKey x = true ∧ K (dget kvs x).isSome) := rfl
theorem idx_tup {l : List D} {i : Int} {μ : Store} {Q : Kd → D → Prop} : idxP (.tup l) (.int i) μ Q = (∃ d, atI l i = some d ∧ Q .fz d) := rfl
theorem idx_lst {l : List D} {i : Int} {μ : Store} {Q : Kd → D → Prop} : idxP (.lst l) (.int i) μ Q = (∃ d, atI l i = some d ∧ Q .fz d) := rfl
theorem idx_str {l : List Nat} {i : Int} {μ : Store} {Q : Kd → D → Prop} : idxP (.str l) (.int i) μ Q = (l.length ≤ big ∧ ∃ c, atI l i = some c ∧ Q .fz (.str [c])) := rfl
theorem idx_dic_int {kvs : List (D × D)} {i : Int} {μ : Store} {Q : Kd → D → Prop} : idxP (.dic kvs) (.int i) μ Q = (isKey (.int i) = true ∧ ∃ d, dget kvs (.int i) = some d ∧ Q .fz d) := rfl
theorem idx_dic_str {kvs : List (D × D)} {i : List Nat} {μ : Store} {Q : Kd → D → Prop} : idxP (.dic kvs) (.str i) μ Q = (isKey (.str i) = true ∧ ∃ d, dget kvs (.str i) = some d ∧ Q .fz d) := rfl
theorem idx_ref {n : Nat} {f : List Nat} {μ : Store} {Q : Kd → D → Prop} : idxP (.ref n) (.str f) μ Q = (∃ o l d, μ[n]? = some o ∧ o.cls = "dict" ∧ getF o f = some (l, d) ∧ Q (if l = 0 then .fz else .borF n f) d) := rfl
theorem isKey_int {i : Int} : isKey (.int i) = true := rfl
theorem isKey_str {s : List Nat} : isKey (.str s) = true := rfl
theorem blt_len_tup {l : List D} {K : D → Prop} : bltP .len [.tup l] K = K (.int l.length) := rfl
theorem blt_len_lst {l : List D} {K : D → Prop} : bltP .len [.lst l] K = K (.int l.length) := rfl
theorem blt_len_dic {l : List (D × D)} {K : D → Prop} : bltP .len [.dic l] K = K (.int l.length) := rfl
theorem blt_len_str {l : List Nat} {K : D → Prop} : bltP .len [.str l] K = (l.length ≤ big ∧ K (.int l.length)) := rfl
theorem blt_abs {i : Int} {K : D → Prop} : bltP .abs [.int i] K = K (.int (if i < 0 then -i else i)) := rfl
theorem blt_int {i : Int} {K : D → Prop} : bltP .int [.int i] K = K (.int i) := rfl
theorem blt_int_bl {b : Bool} {K : D → Prop} : bltP .int [.bl b] K = K (.int (if b then 1 else 0)) := rfl
theorem blt_max {i j : Int} {K : D → Prop} : bltP .max [.int i, .int j] K = K (.int (if j > i then j else i)) := rfl
theorem blt_min {i j : Int} {K : D → Prop} : bltP .min [.int i, .int j] K = K (.int (if j < i then j else i)) := rfl
theorem blt_list_lst {l : List D} {K : D → Prop} : bltP .list [.lst l] K = K (.lst l) := rfl
theorem blt_list_tup {l : List D} {K : D → Prop} : bltP .list [.tup l] K = K (.lst l) := rfl
theorem blt_tuple_lst {l : List D} {K : D → Prop} : bltP .tuple [.lst l] K = K (.tup l) := rfl
theorem blt_tuple_tup {l : List D} {K : D → Prop} : bltP .tuple [.tup l] K = K (.tup l) := rfl
theorem blt_repr {d : D} {K : D → Prop} : bltP .repr [d] K = (rsz d 60 ≤ 16777216 ∧ K (.rep d)) := rfl
theorem blt_sorted {as : List D} {K : D → Prop} : bltP .sorted as K = sortedP as K := rfl
theorem kind_int {i : Int} : kindOf (.int i) = .fz := rfl
theorem kind_str {i : List Nat} : kindOf (.str i) = .fz := rfl
theorem kind_bl {i : Bool} : kindOf (.bl i) = .fz := rfl
theorem kind_tup {i : List D} : kindOf (.tup i) = .fz := rfl
theorem kind_rep {i : D} : kindOf (.rep i) = .fz := rfl
theorem kind_non : kindOf .non = .fz := rfl
theorem kind_lst {i : List D} : kindOf (.lst i) = .fresh := rfl
theorem kind_dic {i : List (D × D)} : kindOf (.dic i) = .fresh := rfl
theorem optI_none : optI none = some none := rfl
theorem optI_some {i : Int} : optI (some (.int i)) = some (some i) := rfl
theorem slice_tup {l : List D} {a b : Option Int} {K : D → Prop} : sliceP (.tup l) a b K = K (.tup (cut l a b)) := rfl
theorem slice_lst {l : List D} {a b : Option Int} {K : D → Prop} : sliceP (.lst l) a b K = K (.lst (cut l a b)) := rfl
theorem slice_str {l : List Nat} {a b : Option Int} {K : D → Prop} : sliceP (.str l) a b K = (l.length ≤ big ∧ K (.str (cut l a b))) := rfl
theorem rev_lst {l : List D} {K : D → Prop} : revP (.lst l) K = K (.lst l.reverse) := rfl
theorem rev_tup {l : List D} {K : D → Prop} : revP (.tup l) K = K (.tup l.reverse) := rfl
theorem items_tup {l : List D} : itemsOf (.tup l) = some l := rfl
theorem items_lst {l : List D} : itemsOf (.lst l) = some l := rfl
theorem mut_append {x : D} {l : List D} {R : List D → D → Prop} : mutP .append l [x] R = (l.length < big ∧ R (l ++ [x]) .non) := rfl
theorem mut_pop {l : List D} {R : List D → D → Prop} : mutP .pop l [] R = (∃ x, l[l.length - 1]? = some x ∧ R l.dropLast x) := rfl
theorem mut_popAt {i : Int} {l : List D} {R : List D → D → Prop} : mutP .pop l [.int i] R = (∃ n x, ixN l.length i = some n ∧ l[n]? = some x ∧ (-9223372036854775808 ≤ i ∧ i < 9223372036854775808) ∧ R (l.eraseIdx n) x) := rfl
theorem mut_extend {r : List D} {l : List D} {R : List D → D → Prop} : mutP .extend l [.lst r] R = (l.length + r.length ≤ big ∧ R (l ++ r) .non) := rfl
theorem set_lst {l : List D} {i : Int} {v : D} {K : D → Prop} : setP (.lst l) (.int i) v K = (∃ n, (0 ≤ i ∧ i < 9223372036854775808 ∧ i.toNat = n) ∧ n < l.length ∧ K (.lst (l.set n v))) := rfl
theorem set_dic {l : List (D × D)} {k v : D} {K : D → Prop} : setP (.dic l) k v K = (isKey k = true ∧ l.length < big ∧ K (.dic (dput l k v))) := rfl
theorem nil_beq : (([] : List Nat) == []) = true := rfl
theorem bin_bor {i j : Int} {K : D → Prop} : bin .bor (.int i) (.int j) K = ((0 ≤ i ∧ 0 ≤ j) ∧ K (.int ((i.toNat ||| j.toNat : Nat) : Int))) := rfl
theorem bin_band {i j : Int} {K : D → Prop} : bin .band (.int i) (.int j) K = ((0 ≤ i ∧ 0 ≤ j) ∧ K (.int ((i.toNat &&& j.toNat : Nat) : Int))) := rfl
theorem bin_shl {i j : Int} {K : D → Prop} : bin .shl (.int i) (.int j) K = ((0 ≤ j ∧ j ≤ 1000000 ∧ i.natAbs < 18446744073709551616) ∧ K (.int (i * 2 ^ j.toNat))) := rfl
theorem bin_shr {i j : Int} {K : D → Prop} : bin .shr (.int i) (.int j) K = (0 ≤ j ∧ K (.int (i / 2 ^ j.toNat))) := rfl
theorem blt_sum {l : List D} {K : D → Prop} : bltP .sum [.lst l] K = (∃ ns, intsOf l = some ns ∧ K (.int ns.sum)) := rfl
theorem blt_all {l : List D} {K : D → Prop} : bltP .all [.lst l] K = (∃ bs, boolsOf l = some bs ∧ K (.bl (bs.all id))) := rfl
theorem blt_any {l : List D} {K : D → Prop} : bltP .any [.lst l] K = (∃ bs, boolsOf l = some bs ∧ K (.bl (bs.any id))) := rfl
theorem blt_maxL {l : List D} {K : D → Prop} : bltP .maxL [.lst l] K = (∃ ns, intsOf l = some ns ∧ ns ≠ [] ∧ K (.int (maxI ns))) := rfl
theorem blt_minL {l : List D} {K : D → Prop} : bltP .minL [.lst l] K = (∃ ns, intsOf l = some ns ∧ ns ≠ [] ∧ K (.int (minI ns))) := rfl
theorem blt_minP {l : List D} {K : D → Prop} : bltP .minP [.lst l] K = (∃ p0 ps, l = (p0 :: ps).map pairD ∧ K (pairD (mnP p0 ps))) := rfl
theorem blt_sortP {l : List D} {K : D → Prop} : bltP .sortP [.lst l] K = (∃ ps, l = ps.map pairD ∧ ∀ qs : List (Int × Int), qs.Perm ps → qs.Pairwise (fun a b => ltP b a = false) → K (.lst (qs.map pairD))) := rfl
/-! ### dict comprehensions by invariants -/
theorem dcomp_go {step : D → Env → Store → (Option (D × D) → Env → Store → Prop) → Prop} {K : List (D × D) → Env → Store → Prop} (I : List D → List D → List (D × D) → Env → Store → Prop)
    (h : ∀ pre x post acc env μ K', I pre (x :: post) acc env μ → (∀ env' μ', I (pre ++ [x]) post acc env' μ' → K' none env' μ') → (∀ q env' μ', I (pre ++ [x]) post (dput acc q.1 q.2) env' μ' → K' (some q) env' μ') → step x env μ K')
    (hl : ∀ pre x post acc env μ, I pre (x :: post) acc env μ → acc.length < big) (e : ∀ pre acc env μ, I pre [] acc env μ → K acc env μ) :
    ∀ xs pre acc env μ, I pre xs acc env μ → dcompLoop step xs acc env μ K
  | [], pre, acc, env, μ, i => e pre acc env μ i
  | x :: xs, pre, acc, env, μ, i => h pre x xs acc env μ _ i (fun env' μ' i' => dcomp_go I h hl e xs (pre ++ [x]) acc env' μ' i') fun q env' μ' i' => ⟨hl pre x xs acc env μ i, dcomp_go I h hl e xs (pre ++ [x]) (dput acc q.1 q.2) env' μ' i'⟩
theorem dcomp_ok {step : D → Env → Store → (Option (D × D) → Env → Store → Prop) → Prop} {K : List (D × D) → Env → Store → Prop} {xs : List D} {env : Env} {μ : Store} (I : List D → List D → List (D × D) → Env → Store → Prop) (h0 : I [] xs [] env μ)
    (h : ∀ pre x post acc env μ K', I pre (x :: post) acc env μ → (∀ env' μ', I (pre ++ [x]) post acc env' μ' → K' none env' μ') → (∀ q env' μ', I (pre ++ [x]) post (dput acc q.1 q.2) env' μ' → K' (some q) env' μ') → step x env μ K')
    (hl : ∀ pre x post acc env μ, I pre (x :: post) acc env μ → acc.length < big) (e : ∀ pre acc env μ, I pre [] acc env μ → K acc env μ) : dcompLoop step xs [] env μ K := dcomp_go I h hl e xs [] [] env μ h0
/-! ### members at written places -/
theorem atI_cn {α : Type} {xs : List α} {j : Nat} {x : α} (h : xs[j]? = some x) : atI xs (j : Int) = some x := by
  have hj := (List.getElem?_eq_some_iff.mp h).1
  unfold atI ixN
  rw [if_pos (by omega), if_pos (by omega)]
  simpa using h
theorem atI_c0 {α : Type} {x : α} {l : List α} : atI (x :: l) 0 = some x := atI_cn (j := 0) rfl
theorem atI_c1 {α : Type} {x y : α} {l : List α} : atI (x :: y :: l) 1 = some y := atI_cn (j := 1) rfl
theorem atI_c2 {α : Type} {x y z : α} {l : List α} : atI (x :: y :: z :: l) 2 = some z := atI_cn (j := 2) rfl
theorem atI_c3 {α : Type} {x y z u : α} {l : List α} : atI (x :: y :: z :: u :: l) 3 = some u := atI_cn (j := 3) rfl
theorem cut_c1 {α : Type} {x : α} {r : List α} : cut (x :: r) (some 1) none = r := by
  unfold cut sIx
  simp
end Pv

set_option autoImplicit false
set_option linter.all false
set_option Elab.async false
set_option maxRecDepth 100000
set_option maxHeartbeats 0
namespace Law
open PySem PySem.Spec PyProof.Rows L2 Pv
def top (i : Nat) : Stmt := PySem.Challenge.pw_splitsays_k28_turns.main.body.getD i (.Pass ⟨0, 0, 0, 0⟩)
abbrev s_numbers_in : Stmt := top 1
abbrev n_numbers_in : List Str := ["line"]
abbrev p_numbers_in : List Str := ["line"]
theorem sc_numbers_in : FnScope n_numbers_in p_numbers_in (defScope s_numbers_in) := ⟨rfl, rfl, rfl, by decide +kernel, rfl, by decide +kernel, by decide +kernel⟩
def b_numbers_in : List S := [.ret (some (.ite (.cmp .eq (.idx (.var 0) (.lit (.int 0))) (.lit (.str [108, 101, 116, 116, 101, 114]))) (.tup []) (.slice (.var 0) (some (.lit (.int 1))) none)))]
def d_numbers_in : FD := { lent := [true], n := 1, body := b_numbers_in }
abbrev s_needed_by : Stmt := top 2
abbrev n_needed_by : List Str := ["sheet", "number", "met", "k", "other"]
abbrev p_needed_by : List Str := ["sheet", "number"]
theorem sc_needed_by : FnScope n_needed_by p_needed_by (defScope s_needed_by) := ⟨rfl, rfl, rfl, by decide +kernel, rfl, by decide +kernel, by decide +kernel⟩
def b_needed_by : List S := [.assign (.var 2) (.dict1 (.var 1) (.lit (.bl true))),
    .for_ [3, 4] (.var 3) (.rngD (.var 1) (.neg (.lit (.int 1)))) [.for_ [4] (.var 4) (.seq (.ite (.cmp .mem (.var 3) (.var 2)) (.call "numbers_in" [true] [.idx (.var 0) (.var 3)]) (.tup []))) [.setIdx 2 (.var 4) (.lit (.bl true))]],
    .ret (some (.blt .sorted [.var 2]))]
def d_needed_by : FD := { lent := [true, true], n := 5, body := b_needed_by }
abbrev s_needed : Stmt := top 3
abbrev n_needed : List Str := ["sheet"]
abbrev p_needed : List Str := ["sheet"]
theorem sc_needed : FnScope n_needed p_needed (defScope s_needed) := ⟨rfl, rfl, rfl, by decide +kernel, rfl, by decide +kernel, by decide +kernel⟩
def b_needed : List S := [.ret (some (.call "needed_by" [true, true] [.var 0, .bin .sub (.blt .len [.var 0]) (.lit (.int 1))]))]
def d_needed : FD := { lent := [true], n := 1, body := b_needed }
abbrev s_members : Stmt := top 6
abbrev n_members : List Str := ["line"]
abbrev p_members : List Str := ["line"]
theorem sc_members : FnScope n_members p_members (defScope s_members) := ⟨rfl, rfl, rfl, by decide +kernel, rfl, by decide +kernel, by decide +kernel⟩
def b_members : List S := [.ret (some (.ite (.cmp .notMem (.idx (.var 0) (.lit (.int 0))) (.tup [.lit (.str [108, 101, 116, 116, 101, 114]), .lit (.str [121, 101, 115])])) (.slice (.var 0) (some (.lit (.int 1))) none) (.tup [])))]
def d_members : FD := { lent := [true], n := 1, body := b_members }
abbrev s_turns : Stmt := top 7
abbrev n_turns : List Str := ["sheet", "found", "number", "line", "best", "other", "word", "many"]
abbrev p_turns : List Str := ["sheet"]
theorem sc_turns : FnScope n_turns p_turns (defScope s_turns) := ⟨rfl, rfl, rfl, by decide +kernel, rfl, by decide +kernel, by decide +kernel⟩
def b_turns : List S := [.assign (.var 1) (.dnew),
    .for_ [2, 3, 4, 5, 6, 7] (.var 2) (.seq (.call "needed" [true] [.var 0])) [.par [3, 4] [.idx (.var 0) (.var 2), .dnew],
    .for_ [5, 6, 7] (.var 5) (.seq (.call "members" [true] [.var 3])) [.for_ [6, 7] (.tup [.var 6, .var 7]) (.itemsAt 1 5) [.setIdx 4 (.var 6) (.blt .max [.dget2 (.var 4) (.var 6) (.lit (.int 0)), .var 7])]],
    .ite (.cmp .mem (.idx (.var 3) (.lit (.int 0))) (.glob "LOOKS")) [.assign (.var 4) (.dict1 (.idx (.var 3) (.lit (.int 0))) (.blt .maxL [.bin .add (.lst [.lit (.int 0)]) (.comp [6, 7] (.bin .add (.var 7) (.blt .int [.cmp .ne (.var 6) (.idx (.var 3) (.lit (.int 0)))])) (.tup [.var 6, .var 7]) (.items (.var 4)) [])]))] [],
    .setIdx 1 (.var 2) (.var 4)],
    .ret (some (.blt .maxL [.bin .add (.lst [.lit (.int 0)]) (.dvals (.idx (.var 1) (.bin .sub (.blt .len [.var 0]) (.lit (.int 1)))))]))]
def d_turns : FD := { lent := [true], n := 8, body := b_turns }
abbrev s__law_source : Stmt := top 9
abbrev n__law_source : List Str := ["script", "mixed", "cell"]
abbrev p__law_source : List Str := ["script"]
theorem sc__law_source : FnScope n__law_source p__law_source (defScope s__law_source) := ⟨rfl, rfl, rfl, by decide +kernel, rfl, by decide +kernel, by decide +kernel⟩
def b__law_source : List S := [.assign (.var 1) (.lit (.int 11)),
    .for_ [2] (.var 2) (.seq (.var 0)) [.assign (.var 1) (.bin .mod (.blt .int [.bin .add (.bin .add (.bin .mul (.var 1) (.lit (.int 69069))) (.bin .mul (.var 2) (.lit (.int 31)))) (.lit (.int 5))]) (.lit (.int 2147483629)))],
    .ret (some (.state [([99, 101, 108, 108, 115], .rev (.comp [2] (.blt .abs [.var 2]) (.var 2) (.seq (.var 0)) [])), ([108, 101, 102, 116], .lit (.int 1)), ([109, 105, 120, 101, 100], .var 1), ([116, 117, 114, 110], .lit (.int 0))]))]
def d__law_source : FD := { lent := [true], n := 3, body := b__law_source }
abbrev s__law_pick : Stmt := top 10
abbrev n__law_pick : List Str := ["source", "many", "left", "mixed"]
abbrev p__law_pick : List Str := ["source", "many"]
theorem sc__law_pick : FnScope n__law_pick p__law_pick (defScope s__law_pick) := ⟨rfl, rfl, rfl, by decide +kernel, rfl, by decide +kernel, by decide +kernel⟩
def b__law_pick : List S := [.while_ [] (.and_ (.cmp .gt (.var 1) (.lit (.int 1))) (.and_ (.cmp .lt (.idx (.var 0) (.lit (.str [108, 101, 102, 116]))) (.lit (.int 2))) (.cmp .gt (.blt .len [.idx (.var 0) (.lit (.str [99, 101, 108, 108, 115]))]) (.lit (.int 0))))) [.setIdx 0 (.lit (.str [108, 101, 102, 116])) (.mutF .pop 0 [99, 101, 108, 108, 115])],
    .assign (.var 2) (.idx (.var 0) (.lit (.str [108, 101, 102, 116]))),
    .ite (.or_ (.cmp .lt (.var 1) (.lit (.int 2))) (.cmp .gt (.var 2) (.lit (.int 1)))) [.setIdx 0 (.lit (.str [108, 101, 102, 116])) (.bin .fdiv (.var 2) (.blt .max [.lit (.int 1), .var 1])),
    .ret (some (.bin .mod (.blt .int [.var 2]) (.blt .max [.lit (.int 1), .var 1])))] [],
    .setIdx 0 (.lit (.str [116, 117, 114, 110])) (.bin .add (.idx (.var 0) (.lit (.str [116, 117, 114, 110]))) (.lit (.int 1))),
    .assign (.var 3) (.bin .mod (.blt .int [.bin .add (.idx (.var 0) (.lit (.str [109, 105, 120, 101, 100]))) (.bin .mul (.idx (.var 0) (.lit (.str [116, 117, 114, 110]))) (.lit (.int 104729)))]) (.lit (.int 998244353))),
    .assign (.var 3) (.bin .mod (.blt .int [.bin .add (.bin .mul (.var 3) (.var 3)) (.bin .mul (.idx (.var 0) (.lit (.str [116, 117, 114, 110]))) (.lit (.int 17)))]) (.lit (.int 2147483647))),
    .setIdx 0 (.lit (.str [109, 105, 120, 101, 100])) (.var 3),
    .ret (some (.bin .mod (.blt .int [.bin .fdiv (.var 3) (.lit (.int 16))]) (.var 1)))]
def d__law_pick : FD := { lent := [false, true], n := 4, body := b__law_pick }
abbrev s__law_of : Stmt := top 11
abbrev n__law_of : List Str := ["source", "some"]
abbrev p__law_of : List Str := ["source", "some"]
theorem sc__law_of : FnScope n__law_of p__law_of (defScope s__law_of) := ⟨rfl, rfl, rfl, by decide +kernel, rfl, by decide +kernel, by decide +kernel⟩
def b__law_of : List S := [.ret (some (.idx (.var 1) (.call "_law_pick" [false, true] [.var 0, .blt .len [.var 1]])))]
def d__law_of : FD := { lent := [false, true], n := 2, body := b__law_of }
abbrev s__law_mixed : Stmt := top 12
abbrev n__law_mixed : List Str := ["source", "things", "rest", "lap"]
abbrev p__law_mixed : List Str := ["source", "things"]
theorem sc__law_mixed : FnScope n__law_mixed p__law_mixed (defScope s__law_mixed) := ⟨rfl, rfl, rfl, by decide +kernel, rfl, by decide +kernel, by decide +kernel⟩
def b__law_mixed : List S := [.assign (.var 2) (.blt .list [.var 1]),
    .ret (some (.comp [3] (.mut .pop 2 [.call "_law_pick" [false, true] [.var 0, .blt .len [.var 2]]]) (.var 3) (.rng (.blt .len [.var 2])) []))]
def d__law_mixed : FD := { lent := [false, true], n := 4, body := b__law_mixed }
abbrev s__law_words : Stmt := top 13
abbrev n__law_words : List Str := ["source", "many", "some"]
abbrev p__law_words : List Str := ["source", "many"]
theorem sc__law_words : FnScope n__law_words p__law_words (defScope s__law_words) := ⟨rfl, rfl, rfl, by decide +kernel, rfl, by decide +kernel, by decide +kernel⟩
def b__law_words : List S := [.assign (.var 2) (.lst [.lit (.str [97]), .lit (.str [98]), .lit (.str [99]), .lit (.str [112]), .lit (.str [113]), .lit (.str [121, 101, 115]), .lit (.str [110, 111, 116]), .lit (.str [117, 110, 116, 105, 108]), .lit (.str [115, 105, 110, 99, 101]), .lit (.str [108, 101, 102, 116]), .lit (.str [120, 49]), .lit (.str [97, 98]), .lit (.str [97, 98, 99, 100, 101, 102, 103, 104, 105, 106, 107, 108])]),
    .ret (some (.blt .sorted [.slice (.call "_law_mixed" [false, true] [.var 0, .var 2]) none (some (.var 1))]))]
def d__law_words : FD := { lent := [false, true], n := 3, body := b__law_words }
abbrev s__law_members : Stmt := top 14
abbrev n__law_members : List Str := ["line"]
abbrev p__law_members : List Str := ["line"]
theorem sc__law_members : FnScope n__law_members p__law_members (defScope s__law_members) := ⟨rfl, rfl, rfl, by decide +kernel, rfl, by decide +kernel, by decide +kernel⟩
def b__law_members : List S := [.ret (some (.ite (.cmp .mem (.idx (.var 0) (.lit (.int 0))) (.tup [.lit (.str [108, 101, 116, 116, 101, 114]), .lit (.str [121, 101, 115])])) (.lst []) (.blt .list [.slice (.var 0) (some (.lit (.int 1))) none])))]
def d__law_members : FD := { lent := [true], n := 1, body := b__law_members }
abbrev s__law_sheet : Stmt := top 15
abbrev n__law_sheet : List Str := ["source", "words", "most", "found", "many", "k", "some", "word", "near"]
abbrev p__law_sheet : List Str := ["source", "words", "most"]
theorem sc__law_sheet : FnScope n__law_sheet p__law_sheet (defScope s__law_sheet) := ⟨rfl, rfl, rfl, by decide +kernel, rfl, by decide +kernel, by decide +kernel⟩
def b__law_sheet : List S := [.par [3, 4] [.lst [], .bin .add (.lit (.int 1)) (.call "_law_pick" [false, true] [.var 0, .var 2])],
    .for_ [5, 6, 7, 8] (.var 5) (.rng (.var 4)) [.assign (.var 6) (.lst [.lit (.str [117, 110, 116, 105, 108]), .lit (.str [115, 105, 110, 99, 101]), .lit (.str [117, 110, 116, 105, 108]), .lit (.str [115, 105, 110, 99, 101]), .lit (.str [110, 111, 116]), .lit (.str [97, 110, 100]), .lit (.str [111, 114])]),
    .assign (.var 6) (.ite (.cmp .lt (.bin .add (.var 5) (.lit (.int 1))) (.var 4)) (.bin .add (.var 6) (.lst [.lit (.str [108, 101, 116, 116, 101, 114]), .lit (.str [108, 101, 116, 116, 101, 114]), .lit (.str [121, 101, 115])])) (.var 6)),
    .assign (.var 7) (.ite (.cmp .gt (.var 5) (.lit (.int 0))) (.call "_law_of" [false, true] [.var 0, .var 6]) (.lit (.str [108, 101, 116, 116, 101, 114]))),
    .assign (.var 8) (.lst [.bin .sub (.bin .sub (.var 5) (.lit (.int 1))) (.call "_law_pick" [false, true] [.var 0, .blt .min [.var 5, .lit (.int 3)]]), .call "_law_pick" [false, true] [.var 0, .var 5]]),
    .ite (.cmp .mem (.var 7) (.tup [.lit (.str [108, 101, 116, 116, 101, 114]), .lit (.str [121, 101, 115])])) [.expr (.mut .append 3 [.ite (.cmp .eq (.var 7) (.lit (.str [108, 101, 116, 116, 101, 114]))) (.tup [.lit (.str [108, 101, 116, 116, 101, 114]), .call "_law_of" [false, true] [.var 0, .var 1]]) (.tup [.lit (.str [121, 101, 115])])])] [.ite (.cmp .eq (.var 7) (.lit (.str [110, 111, 116]))) [.expr (.mut .append 3 [.tup [.lit (.str [110, 111, 116]), .idx (.var 8) (.lit (.int 0))]])] [.expr (.mut .append 3 [.bin .add (.tup [.var 7]) (.blt .tuple [.call "_law_mixed" [false, true] [.var 0, .var 8]])])]]],
    .ret (some (.blt .tuple [.var 3]))]
def d__law_sheet : FD := { lent := [false, true, true], n := 9, body := b__law_sheet }
abbrev s__law_put : Stmt := top 16
abbrev n__law_put : List Str := ["word", "one", "other", "found", "many", "line", "some", "k"]
abbrev p__law_put : List Str := ["word", "one", "other"]
theorem sc__law_put : FnScope n__law_put p__law_put (defScope s__law_put) := ⟨rfl, rfl, rfl, by decide +kernel, rfl, by decide +kernel, by decide +kernel⟩
def b__law_put : List S := [.par [3, 4] [.blt .list [.var 1], .blt .len [.var 1]],
    .for_ [5, 6] (.var 5) (.seq (.var 2)) [.assign (.var 6) (.blt .tuple [.comp [7] (.bin .add (.var 7) (.var 4)) (.var 7) (.seq (.call "_law_members" [true] [.var 5])) []]),
    .expr (.mut .append 3 [.ite (.cmp .ne (.var 6) (.tup [])) (.bin .add (.slice (.var 5) none (some (.lit (.int 1)))) (.var 6)) (.var 5)])],
    .ret (some (.bin .add (.blt .tuple [.var 3]) (.tup [.tup [.var 0, .bin .sub (.var 4) (.lit (.int 1)), .bin .sub (.blt .len [.var 3]) (.lit (.int 1))]])))]
def d__law_put : FD := { lent := [false, true, true], n := 8, body := b__law_put }
abbrev s__law_denied : Stmt := top 17
abbrev n__law_denied : List Str := ["sheet"]
abbrev p__law_denied : List Str := ["sheet"]
theorem sc__law_denied : FnScope n__law_denied p__law_denied (defScope s__law_denied) := ⟨rfl, rfl, rfl, by decide +kernel, rfl, by decide +kernel, by decide +kernel⟩
def b__law_denied : List S := [.ret (some (.bin .add (.var 0) (.tup [.tup [.lit (.str [110, 111, 116]), .bin .sub (.blt .len [.var 0]) (.lit (.int 1))]])))]
def d__law_denied : FD := { lent := [true], n := 1, body := b__law_denied }
abbrev s__law_mirrored : Stmt := top 18
abbrev n__law_mirrored : List Str := ["sheet", "words", "line"]
abbrev p__law_mirrored : List Str := ["sheet"]
theorem sc__law_mirrored : FnScope n__law_mirrored p__law_mirrored (defScope s__law_mirrored) := ⟨rfl, rfl, rfl, by decide +kernel, rfl, by decide +kernel, by decide +kernel⟩
def b__law_mirrored : List S := [.assign (.var 1) (.dict [.str [117, 110, 116, 105, 108], .str [115, 105, 110, 99, 101]] [.lit (.str [115, 105, 110, 99, 101]), .lit (.str [117, 110, 116, 105, 108])]),
    .ret (some (.blt .tuple [.comp [2] (.bin .add (.tup [.dget2 (.var 1) (.idx (.var 2) (.lit (.int 0))) (.idx (.var 2) (.lit (.int 0)))]) (.slice (.var 2) (some (.lit (.int 1))) none)) (.var 2) (.seq (.var 0)) []]))]
def d__law_mirrored : FD := { lent := [true], n := 3, body := b__law_mirrored }
abbrev s__law_part : Stmt := top 19
abbrev n__law_part : List Str := ["sheet", "number", "need", "k", "n", "found", "some"]
abbrev p__law_part : List Str := ["sheet", "number"]
theorem sc__law_part : FnScope n__law_part p__law_part (defScope s__law_part) := ⟨rfl, rfl, rfl, by decide +kernel, rfl, by decide +kernel, by decide +kernel⟩
def b__law_part : List S := [.assign (.var 2) (.lst [.var 1]),
    .for_ [3] (.var 3) (.rngD (.var 1) (.neg (.lit (.int 1)))) [.assign (.var 2) (.bin .add (.var 2) (.comp [4] (.var 4) (.var 4) (.seq (.call "_law_members" [true] [.idx (.var 0) (.var 3)])) [.and_ (.cmp .mem (.var 3) (.var 2)) (.cmp .notMem (.var 4) (.var 2))]))],
    .par [2, 5] [.sset (.var 2), .lst []],
    .for_ [3, 6] (.var 3) (.seq (.var 2)) [.assign (.var 6) (.blt .tuple [.comp [4] (.indexOf (.var 2) (.var 4)) (.var 4) (.seq (.call "_law_members" [true] [.idx (.var 0) (.var 3)])) []]),
    .expr (.mut .append 5 [.ite (.cmp .ne (.var 6) (.tup [])) (.bin .add (.slice (.idx (.var 0) (.var 3)) none (some (.lit (.int 1)))) (.var 6)) (.idx (.var 0) (.var 3))])],
    .ret (some (.blt .tuple [.var 5]))]
def d__law_part : FD := { lent := [true, false], n := 7, body := b__law_part }
abbrev s__law_tidy : Stmt := top 20
abbrev n__law_tidy : List Str := ["sheet", "found", "places", "line", "some", "k"]
abbrev p__law_tidy : List Str := ["sheet"]
theorem sc__law_tidy : FnScope n__law_tidy p__law_tidy (defScope s__law_tidy) := ⟨rfl, rfl, rfl, by decide +kernel, rfl, by decide +kernel, by decide +kernel⟩
def b__law_tidy : List S := [.par [1, 2] [.lst [], .lst []],
    .for_ [3, 4] (.var 3) (.seq (.call "_law_part" [true, false] [.var 0, .bin .sub (.blt .len [.var 0]) (.lit (.int 1))])) [.assign (.var 4) (.blt .tuple [.comp [5] (.idx (.var 2) (.var 5)) (.var 5) (.seq (.call "_law_members" [true] [.var 3])) []]),
    .assign (.var 3) (.ite (.cmp .ne (.var 4) (.tup [])) (.bin .add (.slice (.var 3) none (some (.lit (.int 1)))) (.var 4)) (.var 3)),
    .assign (.var 1) (.ite (.cmp .mem (.var 3) (.var 1)) (.var 1) (.bin .add (.var 1) (.lst [.var 3]))),
    .expr (.mut .append 2 [.indexOf (.var 1) (.var 3)])],
    .ret (some (.blt .tuple [.var 1]))]
def d__law_tidy : FD := { lent := [true], n := 6, body := b__law_tidy }
abbrev s__law_need : Stmt := top 21
abbrev n__law_need : List Str := ["sheet", "number", "need", "k", "n"]
abbrev p__law_need : List Str := ["sheet", "number"]
theorem sc__law_need : FnScope n__law_need p__law_need (defScope s__law_need) := ⟨rfl, rfl, rfl, by decide +kernel, rfl, by decide +kernel, by decide +kernel⟩
def b__law_need : List S := [.assign (.var 2) (.lst [.var 1]),
    .for_ [3] (.var 3) (.rngD (.var 1) (.neg (.lit (.int 1)))) [.assign (.var 2) (.bin .add (.var 2) (.comp [4] (.var 4) (.var 4) (.seq (.call "_law_members" [true] [.idx (.var 0) (.var 3)])) [.and_ (.cmp .mem (.var 3) (.var 2)) (.cmp .notMem (.var 4) (.var 2))]))],
    .ret (some (.sset (.var 2)))]
def d__law_need : FD := { lent := [true, false], n := 5, body := b__law_need }
abbrev s__law_turns : Stmt := top 22
abbrev n__law_turns : List Str := ["sheet", "found", "k", "some", "n"]
abbrev p__law_turns : List Str := ["sheet"]
theorem sc__law_turns : FnScope n__law_turns p__law_turns (defScope s__law_turns) := ⟨rfl, rfl, rfl, by decide +kernel, rfl, by decide +kernel, by decide +kernel⟩
def b__law_turns : List S := [.assign (.var 1) (.dnew),
    .for_ [2, 3] (.var 2) (.seq (.call "_law_need" [true, false] [.var 0, .bin .sub (.blt .len [.var 0]) (.lit (.int 1))])) [.ite (.cmp .mem (.idx (.idx (.var 0) (.var 2)) (.lit (.int 0))) (.tup [.lit (.str [117, 110, 116, 105, 108]), .lit (.str [115, 105, 110, 99, 101])])) [.assign (.var 3) (.comp [4] (.bin .add (.idx (.var 1) (.var 4)) (.blt .int [.cmp .ne (.idx (.idx (.var 0) (.var 4)) (.lit (.int 0))) (.idx (.idx (.var 0) (.var 2)) (.lit (.int 0)))])) (.var 4) (.seq (.call "_law_need" [true, false] [.var 0, .var 2])) [.cmp .mem (.var 4) (.var 1)]),
    .setIdx 1 (.var 2) (.blt .maxL [.bin .add (.lst [.lit (.int 0)]) (.var 3)])] []],
    .ret (some (.blt .maxL [.bin .add (.lst [.lit (.int 0)]) (.dvals (.var 1))]))]
def d__law_turns : FD := { lent := [true], n := 5, body := b__law_turns }
abbrev s__law_kept_sheet : Stmt := top 23
abbrev n__law_kept_sheet : List Str := ["source", "words", "most", "sheet", "way", "change", "line"]
abbrev p__law_kept_sheet : List Str := ["source", "words", "most"]
theorem sc__law_kept_sheet : FnScope n__law_kept_sheet p__law_kept_sheet (defScope s__law_kept_sheet) := ⟨rfl, rfl, rfl, by decide +kernel, rfl, by decide +kernel, by decide +kernel⟩
def b__law_kept_sheet : List S := [.par [3, 4] [.call "_law_sheet" [false, true, true] [.var 0, .var 1, .var 2], .call "_law_pick" [false, true] [.var 0, .lit (.int 5)]],
    .assign (.var 5) (.idx (.lst [.dnew, .dnew, .dict [.str [117, 110, 116, 105, 108]] [.lit (.str [115, 105, 110, 99, 101])], .dict [.str [115, 105, 110, 99, 101]] [.lit (.str [117, 110, 116, 105, 108])], .dict [.str [117, 110, 116, 105, 108], .str [115, 105, 110, 99, 101]] [.lit (.str [111, 114]), .lit (.str [97, 110, 100])]]) (.var 4)),
    .ret (some (.blt .tuple [.comp [6] (.bin .add (.tup [.dget2 (.var 5) (.idx (.var 6) (.lit (.int 0))) (.idx (.var 6) (.lit (.int 0)))]) (.slice (.var 6) (some (.lit (.int 1))) none)) (.var 6) (.seq (.var 3)) []]))]
def d__law_kept_sheet : FD := { lent := [false, true, true], n := 7, body := b__law_kept_sheet }
abbrev s__law_some_sheet : Stmt := top 24
abbrev n__law_some_sheet : List Str := ["source", "words", "most", "sheet", "word"]
abbrev p__law_some_sheet : List Str := ["source", "words", "most"]
theorem sc__law_some_sheet : FnScope n__law_some_sheet p__law_some_sheet (defScope s__law_some_sheet) := ⟨rfl, rfl, rfl, by decide +kernel, rfl, by decide +kernel, by decide +kernel⟩
def b__law_some_sheet : List S := [.assign (.var 3) (.call "_law_kept_sheet" [false, true, true] [.var 0, .var 1, .var 2]),
    .ite (.cmp .eq (.call "_law_pick" [false, true] [.var 0, .lit (.int 3)]) (.lit (.int 0))) [.assign (.var 4) (.call "_law_of" [false, true] [.var 0, .lst [.lit (.str [97, 110, 100]), .lit (.str [111, 114]), .lit (.str [117, 110, 116, 105, 108]), .lit (.str [115, 105, 110, 99, 101])]]),
    .assign (.var 3) (.call "_law_put" [false, true, true] [.var 4, .var 3, .call "_law_kept_sheet" [false, true, true] [.var 0, .var 1, .var 2]])] [],
    .ret (some (.ite (.cmp .eq (.call "_law_pick" [false, true] [.var 0, .lit (.int 4)]) (.lit (.int 0))) (.call "_law_denied" [true] [.var 3]) (.var 3)))]
def d__law_some_sheet : FD := { lent := [false, true, true], n := 5, body := b__law_some_sheet }
abbrev s__law_ladder : Stmt := top 25
abbrev n__law_ladder : List Str := ["source", "many", "sheet", "last", "found", "lap", "word", "more", "k"]
abbrev p__law_ladder : List Str := ["source", "many"]
theorem sc__law_ladder : FnScope n__law_ladder p__law_ladder (defScope s__law_ladder) := ⟨rfl, rfl, rfl, by decide +kernel, rfl, by decide +kernel, by decide +kernel⟩
def b__law_ladder : List S := [.assign (.tup [.var 2, .var 3, .var 4]) (.tup [.tup [.tup [.lit (.str [108, 101, 116, 116, 101, 114]), .lit (.str [97])]], .lit (.str []), .lit (.int 0)]),
    .for_ [5, 6, 7, 8] (.var 5) (.rng (.var 1)) [.assign (.var 6) (.call "_law_of" [false, true] [.var 0, .lst [.lit (.str [117, 110, 116, 105, 108]), .lit (.str [115, 105, 110, 99, 101])]]),
    .par [4, 3] [.bin .add (.var 4) (.blt .int [.cmp .notMem (.var 3) (.tup [.lit (.str []), .var 6])]), .var 6],
    .assign (.var 2) (.bin .add (.var 2) (.tup [.bin .add (.tup [.var 6]) (.blt .tuple [.call "_law_mixed" [false, true] [.var 0, .lst [.bin .sub (.blt .len [.var 2]) (.lit (.int 1)), .lit (.int 0)]]])])),
    .for_ [7, 8] (.var 7) (.rng (.call "_law_pick" [false, true] [.var 0, .lit (.int 3)])) [.assign (.var 8) (.bin .sub (.blt .len [.var 2]) (.lit (.int 1))),
    .assign (.var 2) (.bin .add (.var 2) (.tup [.call "_law_of" [false, true] [.var 0, .lst [.tup [.lit (.str [110, 111, 116]), .var 8], .tup [.lit (.str [111, 114]), .var 8, .lit (.int 0)], .tup [.lit (.str [97, 110, 100]), .lit (.int 0), .var 8]]]]))]],
    .ret (some (.tup [.var 2, .var 4]))]
def d__law_ladder : FD := { lent := [false, true], n := 9, body := b__law_ladder }
abbrev s__law_tall : Stmt := top 26
abbrev n__law_tall : List Str := ["source", "some", "sheet", "k", "word"]
abbrev p__law_tall : List Str := ["source", "some"]
theorem sc__law_tall : FnScope n__law_tall p__law_tall (defScope s__law_tall) := ⟨rfl, rfl, rfl, by decide +kernel, rfl, by decide +kernel, by decide +kernel⟩
def b__law_tall : List S := [.assign (.var 2) (.tup [.tup [.lit (.str [108, 101, 116, 116, 101, 114]), .lit (.str [97])]]),
    .for_ [3, 4] (.var 3) (.rng (.lit (.int 59))) [.assign (.var 4) (.call "_law_of" [false, true] [.var 0, .var 1]),
    .assign (.var 2) (.bin .add (.var 2) (.tup [.ite (.cmp .eq (.var 4) (.lit (.str [110, 111, 116]))) (.tup [.var 4, .var 3]) (.tup [.var 4, .var 3, .var 3])]))],
    .ret (some (.var 2))]
def d__law_tall : FD := { lent := [false, true], n := 5, body := b__law_tall }
abbrev s_law : Stmt := top 27
abbrev n_law : List Str := ["script", "source", "lap", "sheet", "due", "some", "one"]
abbrev p_law : List Str := ["script"]
theorem sc_law : FnScope n_law p_law (defScope s_law) := ⟨rfl, rfl, rfl, by decide +kernel, rfl, by decide +kernel, by decide +kernel⟩
def b_law : List S := [.assign (.var 1) (.call "_law_source" [true] [.var 0]),
    .for_ [2, 3, 4, 5] (.var 2) (.rng (.lit (.int 5))) [.assign (.var 3) (.call "_law_some_sheet" [false, true, true] [.var 1, .call "_law_words" [false, true] [.var 1, .lit (.int 2)], .idx (.lst [.lit (.int 1), .lit (.int 4), .lit (.int 8), .lit (.int 14), .lit (.int 28)]) (.var 2)]),
    .par [4, 5] [.call "_law_turns" [true] [.var 3], .lst [.var 3, .call "_law_mirrored" [true] [.var 3], .call "_law_denied" [true] [.var 3], .call "_law_tidy" [true] [.var 3]]],
    .ite (.cmp .ne (.blt .repr [.comp [6] (.call "turns" [true] [.var 6]) (.var 6) (.seq (.var 5)) []]) (.blt .repr [.bin .mul (.lst [.var 4]) (.lit (.int 4))])) [.ret (some (.lit (.bl false)))] []],
    .for_ [2, 3, 4] (.var 2) (.rng (.lit (.int 4))) [.assign (.tup [.var 3, .var 4]) (.call "_law_ladder" [false, true] [.var 1, .idx (.lst [.lit (.int 2), .lit (.int 5), .lit (.int 9), .lit (.int 15)]) (.var 2)]),
    .ite (.cmp .ne (.blt .repr [.lst [.call "turns" [true] [.var 3], .call "turns" [true] [.bin .add (.var 3) (.tup [.tup [.lit (.str [108, 101, 116, 116, 101, 114]), .lit (.str [98])]])]]]) (.blt .repr [.lst [.var 4, .lit (.int 0)]])) [.ret (some (.lit (.bl false)))] []],
    .for_ [3, 5] (.var 5) (.seq (.lst [.lst [.lit (.str [97, 110, 100]), .lit (.str [111, 114])], .lst [.lit (.str [97, 110, 100]), .lit (.str [111, 114]), .lit (.str [117, 110, 116, 105, 108]), .lit (.str [115, 105, 110, 99, 101])]])) [.assign (.var 3) (.call "_law_tall" [false, true] [.var 1, .var 5]),
    .ite (.cmp .ne (.blt .repr [.call "turns" [true] [.var 3]]) (.blt .repr [.call "_law_turns" [true] [.var 3]])) [.ret (some (.lit (.bl false)))] []],
    .assign (.var 3) (.tup [.tup [.lit (.str [108, 101, 116, 116, 101, 114]), .lit (.str [97])], .tup [.lit (.str [108, 101, 116, 116, 101, 114]), .lit (.str [98])], .tup [.lit (.str [121, 101, 115])], .tup [.lit (.str [117, 110, 116, 105, 108]), .lit (.int 1), .lit (.int 2)], .tup [.lit (.str [97, 110, 100]), .lit (.int 0), .lit (.int 3)], .tup [.lit (.str [115, 105, 110, 99, 101]), .lit (.int 4), .lit (.int 2)]]),
    .ret (some (.cmp .eq (.lst [.call "turns" [true] [.var 3], .call "turns" [true] [.slice (.var 3) none (some (.lit (.int 4)))], .call "turns" [true] [.slice (.var 3) none (some (.lit (.int 1)))]]) (.lst [.lit (.int 1), .lit (.int 0), .lit (.int 0)])))]
def d_law : FD := { lent := [true], n := 7, body := b_law }
structure Tb (P : Program) (w : World) (K : PySem.W.Frag) (mg : Str → Option Value) (base : Heap) (C : CallFn) (G : String → Option D) (k : Nat) : Prop where
  f_numbers_in : Fn P w K mg base C k "numbers_in" "numbers_in" d_numbers_in.lent
  f_needed_by : Fn P w K mg base C k "needed_by" "needed_by" d_needed_by.lent
  f_needed : Fn P w K mg base C k "needed" "needed" d_needed.lent
  f_members : Fn P w K mg base C k "members" "members" d_members.lent
  f_turns : Fn P w K mg base C k "turns" "turns" d_turns.lent
  f__law_source : Fn P w K mg base C k "_law_source" "_law_source" d__law_source.lent
  f__law_pick : Fn P w K mg base C k "_law_pick" "_law_pick" d__law_pick.lent
  f__law_of : Fn P w K mg base C k "_law_of" "_law_of" d__law_of.lent
  f__law_mixed : Fn P w K mg base C k "_law_mixed" "_law_mixed" d__law_mixed.lent
  f__law_words : Fn P w K mg base C k "_law_words" "_law_words" d__law_words.lent
  f__law_members : Fn P w K mg base C k "_law_members" "_law_members" d__law_members.lent
  f__law_sheet : Fn P w K mg base C k "_law_sheet" "_law_sheet" d__law_sheet.lent
  f__law_put : Fn P w K mg base C k "_law_put" "_law_put" d__law_put.lent
  f__law_denied : Fn P w K mg base C k "_law_denied" "_law_denied" d__law_denied.lent
  f__law_mirrored : Fn P w K mg base C k "_law_mirrored" "_law_mirrored" d__law_mirrored.lent
  f__law_part : Fn P w K mg base C k "_law_part" "_law_part" d__law_part.lent
  f__law_tidy : Fn P w K mg base C k "_law_tidy" "_law_tidy" d__law_tidy.lent
  f__law_need : Fn P w K mg base C k "_law_need" "_law_need" d__law_need.lent
  f__law_turns : Fn P w K mg base C k "_law_turns" "_law_turns" d__law_turns.lent
  f__law_kept_sheet : Fn P w K mg base C k "_law_kept_sheet" "_law_kept_sheet" d__law_kept_sheet.lent
  f__law_some_sheet : Fn P w K mg base C k "_law_some_sheet" "_law_some_sheet" d__law_some_sheet.lent
  f__law_ladder : Fn P w K mg base C k "_law_ladder" "_law_ladder" d__law_ladder.lent
  f__law_tall : Fn P w K mg base C k "_law_tall" "_law_tall" d__law_tall.lent
  f_law : Fn P w K mg base C k "law" "law" d_law.lent
  b_abs : mg "abs" = none
  b_int : mg "int" = none
  b_len : mg "len" = none
  b_list : mg "list" = none
  b_max : mg "max" = none
  b_min : mg "min" = none
  b_range : mg "range" = none
  b_repr : mg "repr" = none
  b_set : mg "set" = none
  b_sorted : mg "sorted" = none
  b_tuple : mg "tuple" = none
  c_LOOKS : ∀ {X : Cx} {N : Hp} {z : Ev} {pos : Pos}, X.mg = mg → X.K = K → z.G = G → Gl X "LOOKS" → PE X (.Name "LOOKS" pos) (tE X.K N z (.glob "LOOKS"))
section
variable {P : Program} {w : World} {K : PySem.W.Frag} {mg : Str → Option Value} {base : Heap} {C : CallFn} {G : String → Option D} {k : Nat}
theorem t_numbers_in (T : Tb P w K mg base C G k) (cd : Value) (A : Around) (ou : List PySem.Env) (s : Shared) (H : Hp) (hr : Room k (A.deeper (envOfC "numbers_in" (defScope s_numbers_in) s.heap.objs.size (He.ga K "numbers_in") cd))) (hg : A.guards = some []) :
    PSs (cxOf noCX P w K mg base n_numbers_in "numbers_in" (defScope s_numbers_in) (He.ga K "numbers_in") cd A ou s H fun _ _ _ => False) (defBody s_numbers_in) (tSs K H C G b_numbers_in) := by
  have hu1 := room_1 hr
  have hu65 := room_65 hr
  have hu70 := room_70 hr
  have nd := sc_numbers_in.nd
  refine PSs.nox ?_
  exact (pvs_cons (pvs_ret (pv_ite (pvt_cmp (op := .eq) hu65 (pv_idx hu1 (pv_var (i := 0) rfl (.inl rfl)) pv_int (fun _ _ => rfl)) (pv_str rfl) (by rfl)) (pv_tup pvl_nil (by decide)) (pv_slice (pv_var (i := 0) rfl (.inl rfl)) (pvo_some pv_int) pvo_none)))
    pvs_nil)
theorem t_needed_by (T : Tb P w K mg base C G k) (cd : Value) (A : Around) (ou : List PySem.Env) (s : Shared) (H : Hp) (hr : Room k (A.deeper (envOfC "needed_by" (defScope s_needed_by) s.heap.objs.size (He.ga K "needed_by") cd))) (hg : A.guards = some []) :
    PSs (cxOf noCX P w K mg base n_needed_by "needed_by" (defScope s_needed_by) (He.ga K "needed_by") cd A ou s H fun _ _ _ => False) (defBody s_needed_by) (tSs K H C G b_needed_by) := by
  have hu1 := room_1 hr
  have hu65 := room_65 hr
  have hu70 := room_70 hr
  have nd := sc_needed_by.nd
  refine PSs.nox ?_
  exact (pvs_cons (pvs_asg (pv_dict1 (pv_var (i := 1) rfl (.inl rfl)) pv_bl) (pvg_name (i := 2) nd rfl (.inl rfl)))
    (pvs_cons (pvs_for (dead := [3, 4]) PassesOwn.never rfl (pvi_rngD (by rfl) T.b_range (pv_var (i := 1) rfl (.inl rfl)) (pv_neg pv_int)) (pvg_name (i := 3) nd rfl (.inl rfl)) (pvs_cons (pvs_for (dead := [4]) PassesOwn.never rfl (pvi_seq (pv_ite (pvt_cmp (op := .mem) hu65 (pv_var (i := 3) rfl (.inl rfl)) (pv_var (i := 2) rfl (.inl rfl)) (by rfl)) (pv_fn T.f_numbers_in hr hg (by rfl) (pva_lent (pv_idx hu1 (pv_var (i := 0) rfl (.inl rfl)) (pv_var (i := 3) rfl (.inl rfl)) (fun _ _ => rfl)) pva_nil)) (pv_tup pvl_nil (by decide)))) (pvg_name (i := 4) nd rfl (.inl rfl)) (pvs_cons (pvs_setIdx (i := 2) hu1 rfl (.inl rfl) pv_bl (pv_var (i := 4) rfl (.inl rfl)))
    pvs_nil))
    pvs_nil))
    (pvs_cons (pvs_ret (pv_bltB (f := .sorted) (cr_sorted rfl) (by rfl) T.b_sorted PyProof.Rows.boot_sorted (pvb_one (pv_var (i := 2) rfl (.inl rfl)))))
    pvs_nil)))
theorem t_needed (T : Tb P w K mg base C G k) (cd : Value) (A : Around) (ou : List PySem.Env) (s : Shared) (H : Hp) (hr : Room k (A.deeper (envOfC "needed" (defScope s_needed) s.heap.objs.size (He.ga K "needed") cd))) (hg : A.guards = some []) :
    PSs (cxOf noCX P w K mg base n_needed "needed" (defScope s_needed) (He.ga K "needed") cd A ou s H fun _ _ _ => False) (defBody s_needed) (tSs K H C G b_needed) := by
  have hu1 := room_1 hr
  have hu65 := room_65 hr
  have hu70 := room_70 hr
  have nd := sc_needed.nd
  refine PSs.nox ?_
  exact (pvs_cons (pvs_ret (pv_fn T.f_needed_by hr hg (by rfl) (pva_lent (pv_var (i := 0) rfl (.inl rfl)) (pva_lent (pv_bin (op := .sub) (pv_bltB (f := .len) cr_len (by rfl) T.b_len PySem.boot_len (pvb_one (pv_var (i := 0) rfl (.inl rfl)))) pv_int) pva_nil))))
    pvs_nil)
theorem t_members (T : Tb P w K mg base C G k) (cd : Value) (A : Around) (ou : List PySem.Env) (s : Shared) (H : Hp) (hr : Room k (A.deeper (envOfC "members" (defScope s_members) s.heap.objs.size (He.ga K "members") cd))) (hg : A.guards = some []) :
    PSs (cxOf noCX P w K mg base n_members "members" (defScope s_members) (He.ga K "members") cd A ou s H fun _ _ _ => False) (defBody s_members) (tSs K H C G b_members) := by
  have hu1 := room_1 hr
  have hu65 := room_65 hr
  have hu70 := room_70 hr
  have nd := sc_members.nd
  refine PSs.nox ?_
  exact (pvs_cons (pvs_ret (pv_ite (pvt_cmp (op := .notMem) hu65 (pv_idx hu1 (pv_var (i := 0) rfl (.inl rfl)) pv_int (fun _ _ => rfl)) (pv_tup (pvl_cons (pv_str rfl) (pvl_cons (pv_str rfl) pvl_nil)) (by decide)) (by rfl)) (pv_slice (pv_var (i := 0) rfl (.inl rfl)) (pvo_some pv_int) pvo_none) (pv_tup pvl_nil (by decide))))
    pvs_nil)
theorem t_turns (T : Tb P w K mg base C G k) (cd : Value) (A : Around) (ou : List PySem.Env) (s : Shared) (H : Hp) (hr : Room k (A.deeper (envOfC "turns" (defScope s_turns) s.heap.objs.size (He.ga K "turns") cd))) (hg : A.guards = some []) :
    PSs (cxOf noCX P w K mg base n_turns "turns" (defScope s_turns) (He.ga K "turns") cd A ou s H fun _ _ _ => False) (defBody s_turns) (tSs K H C G b_turns) := by
  have hu1 := room_1 hr
  have hu65 := room_65 hr
  have hu70 := room_70 hr
  have nd := sc_turns.nd
  refine PSs.nox ?_
  exact (pvs_cons (pvs_asg pv_dnew (pvg_name (i := 1) nd rfl (.inl rfl)))
    (pvs_cons (pvs_for (dead := [2, 3, 4, 5, 6, 7]) PassesOwn.never rfl (pvi_seq (pv_fn T.f_needed hr hg (by rfl) (pva_lent (pv_var (i := 0) rfl (.inl rfl)) pva_nil))) (pvg_name (i := 2) nd rfl (.inl rfl)) (pvs_cons (pvs_parT2 (i := 3) (j := 4) rfl nd rfl rfl (.inr rfl) (.inl rfl) (pv_idx hu1 (pv_var (i := 0) rfl (.inl rfl)) (pv_var (i := 2) rfl (.inl rfl)) (fun _ _ => rfl)) pv_dnew)
    (pvs_cons (pvs_for (dead := [5, 6, 7]) PassesOwn.never rfl (pvi_seq (pv_fn T.f_members hr hg (by rfl) (pva_lent (pv_var (i := 3) rfl (.inr (.inl rfl))) pva_nil))) (pvg_name (i := 5) nd rfl (.inl rfl)) (pvs_cons (pvs_forI (dead := [6, 7]) hu1 PassesOwn.never rfl (pe_var (i := 1) rfl (.inl rfl)) (pe_var (i := 5) rfl (.inl rfl)) (fun _ _ => rfl) (pvg_tup rfl (pvgs_cons (pvg_name (i := 6) nd rfl (.inl rfl)) (pvgs_cons (pvg_name (i := 7) nd rfl (.inl rfl)) pvgs_nil))) (pvs_cons (pvs_setIdx (i := 4) hu1 rfl (.inl rfl) (pv_bltB (f := .max) (cr_max2 rfl) (by rfl) T.b_max PyProof.Rows.boot_max (pvb_cons (pv_dget2 hu1 (pv_var (i := 4) rfl (.inl rfl)) (pv_var (i := 6) rfl (.inl rfl)) pv_int ⟨by rfl, by rfl, by rfl, by rfl⟩) (pvb_one (pv_var (i := 7) rfl (.inl rfl))))) (pv_var (i := 6) rfl (.inl rfl)))
    pvs_nil))
    pvs_nil))
    (pvs_cons (pvs_if (pvt_cmp (op := .mem) hu65 (pv_idx hu1 (pv_var (i := 3) rfl (.inr (.inl rfl))) pv_int (fun _ _ => rfl)) (T.c_LOOKS rfl rfl rfl (by rfl)) (by rfl)) (pvs_cons (pvs_asg (pv_dict1 (pv_idx hu1 (pv_var (i := 3) rfl (.inr (.inl rfl))) pv_int (fun _ _ => rfl)) (pv_bltB (f := .maxL) (cr_maxL rfl) (by rfl) T.b_max PyProof.Rows.boot_max (pvb_one (pv_bin (op := .add) (pv_lst (pvl_cons pv_int pvl_nil) (by decide)) (pv_lcI (own := [("word", 6), ("many", 7)]) (i := 4) rfl nd rfl (.inl rfl) (show BlkOk n_turns (defScope s_turns) _ [("word", 6), ("many", 7)] from ⟨rfl, by decide +kernel, by decide +kernel, by decide +kernel, by decide +kernel⟩) (by decide) (fun _ _ _ _ _ => (pvg_tup rfl (pvgs_cons (pvg_name (i := 6) nd rfl (.inl rfl)) (pvgs_cons (pvg_name (i := 7) nd rfl (.inl rfl)) pvgs_nil)))) (fun _ _ _ _ _ => pvc_nil) (fun _ _ _ _ _ => (pv_bin (op := .add) (pv_var (i := 7) rfl (.inl rfl)) (pv_bltT (f := .int) cr_int (by rfl) T.b_int PyProof.Rows.boot_int (pvb_one (pv_cmp (op := .ne) hu65 (pv_var (i := 6) rfl (.inl rfl)) (pv_idx hu1 (pv_var (i := 3) rfl (.inr (.inl (by rfl)))) pv_int (fun _ _ => rfl)) (by rfl))))))))))) (pvg_name (i := 4) nd rfl (.inl rfl)))
    pvs_nil) pvs_nil)
    (pvs_cons (pvs_setIdx (i := 1) hu1 rfl (.inl rfl) (pv_var (i := 4) rfl (.inl rfl)) (pv_var (i := 2) rfl (.inl rfl)))
    pvs_nil)))))
    (pvs_cons (pvs_ret (pv_bltB (f := .maxL) (cr_maxL rfl) (by rfl) T.b_max PyProof.Rows.boot_max (pvb_one (pv_bin (op := .add) (pv_lst (pvl_cons pv_int pvl_nil) (by decide)) (pv_dvals rfl (by rfl) T.b_list (pv_idx hu1 (pv_var (i := 1) rfl (.inl rfl)) (pv_bin (op := .sub) (pv_bltB (f := .len) cr_len (by rfl) T.b_len PySem.boot_len (pvb_one (pv_var (i := 0) rfl (.inl rfl)))) pv_int) (fun _ _ => rfl)))))))
    pvs_nil)))
theorem t__law_source (T : Tb P w K mg base C G k) (cd : Value) (A : Around) (ou : List PySem.Env) (s : Shared) (H : Hp) (hr : Room k (A.deeper (envOfC "_law_source" (defScope s__law_source) s.heap.objs.size (He.ga K "_law_source") cd))) (hg : A.guards = some []) :
    PSs (cxOf noCX P w K mg base n__law_source "_law_source" (defScope s__law_source) (He.ga K "_law_source") cd A ou s H fun _ _ _ => False) (defBody s__law_source) (tSs K H C G b__law_source) := by
  have hu1 := room_1 hr
  have hu65 := room_65 hr
  have hu70 := room_70 hr
  have nd := sc__law_source.nd
  refine PSs.nox ?_
  exact (pvs_cons (pvs_asg pv_int (pvg_name (i := 1) nd rfl (.inl rfl)))
    (pvs_cons (pvs_for (dead := [2]) PassesOwn.never rfl (pvi_seq (pv_var (i := 0) rfl (.inl rfl))) (pvg_name (i := 2) nd rfl (.inl rfl)) (pvs_cons (pvs_asg (pv_bin (op := .mod) (pv_bltT (f := .int) cr_int (by rfl) T.b_int PyProof.Rows.boot_int (pvb_one (pv_bin (op := .add) (pv_bin (op := .add) (pv_bin (op := .mul) (pv_var (i := 1) rfl (.inl rfl)) pv_int) (pv_bin (op := .mul) (pv_var (i := 2) rfl (.inl rfl)) pv_int)) pv_int))) pv_int) (pvg_name (i := 1) nd rfl (.inl rfl)))
    pvs_nil))
    (pvs_cons (pvs_ret (pv_state (pfs_cons rfl (pv_rev (pv_lc (own := [("cell", 2)]) rfl nd (pvi_seq (pv_var (i := 0) rfl (.inl rfl))) (show BlkOk n__law_source (defScope s__law_source) _ [("cell", 2)] from ⟨rfl, by decide +kernel, by decide +kernel, by decide +kernel, by decide +kernel⟩) (by decide) (fun _ _ _ _ _ => (pvg_name (i := 2) nd rfl (.inl rfl))) (fun _ _ _ _ _ => pvc_nil) (fun _ _ _ _ _ => (pv_bltB (f := .abs) cr_abs (by rfl) T.b_abs PyProof.Rows.boot_abs (pvb_one (pv_var (i := 2) rfl (.inl rfl))))))) (pfs_cons rfl pv_int (pfs_cons rfl (pv_var (i := 1) rfl (.inl rfl)) (pfs_cons rfl pv_int pfs_nil)))) (by simp) (by decide) (by decide) (by decide)))
    pvs_nil)))
theorem t__law_pick (T : Tb P w K mg base C G k) (cd : Value) (A : Around) (ou : List PySem.Env) (s : Shared) (H : Hp) (hr : Room k (A.deeper (envOfC "_law_pick" (defScope s__law_pick) s.heap.objs.size (He.ga K "_law_pick") cd))) (hg : A.guards = some []) :
    PSs (cxOf noCX P w K mg base n__law_pick "_law_pick" (defScope s__law_pick) (He.ga K "_law_pick") cd A ou s H fun _ _ _ => False) (defBody s__law_pick) (tSs K H C G b__law_pick) := by
  have hu1 := room_1 hr
  have hu65 := room_65 hr
  have hu70 := room_70 hr
  have nd := sc__law_pick.nd
  refine PSs.nox ?_
  exact (pvs_cons (pvs_while (dead := []) PassesOwn.never ((pvt_and (pvt_cmp (op := .gt) hu65 (pv_var (i := 1) rfl (.inl rfl)) pv_int (by rfl)) (pvt_and (pvt_cmp (op := .lt) hu65 (pv_idx hu1 (pv_var (i := 0) rfl (.inl rfl)) (pv_str rfl) (fun _ _ => rfl)) pv_int (by rfl)) (pvt_and1 (pvt_cmp (op := .gt) hu65 (pv_bltB (f := .len) cr_len (by rfl) T.b_len PySem.boot_len (pvb_one (pv_idx hu1 (pv_var (i := 0) rfl (.inl rfl)) (pv_str rfl) (fun _ _ => rfl)))) pv_int (by rfl)))))).pt (pvs_cons (pvs_setIdx (i := 0) hu1 rfl (.inl rfl) (pv_mutF (m := .pop) (i := 0) PySem.F.slot_list_pop PySem.F.type_list_pop hu1 rfl (.inl rfl) rfl (by rfl) (by rfl) (fun _ _ => rfl)) (pv_str rfl))
    pvs_nil))
    (pvs_cons (pvs_asg (pv_idx hu1 (pv_var (i := 0) rfl (.inl rfl)) (pv_str rfl) (fun _ _ => rfl)) (pvg_name (i := 2) nd rfl (.inl rfl)))
    (pvs_cons (pvs_if ((pvt_or (pvt_cmp (op := .lt) hu65 (pv_var (i := 1) rfl (.inl rfl)) pv_int (by rfl)) (pvt_or1 (pvt_cmp (op := .gt) hu65 (pv_var (i := 2) rfl (.inl rfl)) pv_int (by rfl))))).pt (pvs_cons (pvs_setIdx (i := 0) hu1 rfl (.inl rfl) (pv_bin (op := .fdiv) (pv_var (i := 2) rfl (.inl rfl)) (pv_bltB (f := .max) (cr_max2 rfl) (by rfl) T.b_max PyProof.Rows.boot_max (pvb_cons pv_int (pvb_one (pv_var (i := 1) rfl (.inl rfl)))))) (pv_str rfl))
    (pvs_cons (pvs_ret (pv_bin (op := .mod) (pv_bltT (f := .int) cr_int (by rfl) T.b_int PyProof.Rows.boot_int (pvb_one (pv_var (i := 2) rfl (.inl rfl)))) (pv_bltB (f := .max) (cr_max2 rfl) (by rfl) T.b_max PyProof.Rows.boot_max (pvb_cons pv_int (pvb_one (pv_var (i := 1) rfl (.inl rfl)))))))
    pvs_nil)) pvs_nil)
    (pvs_cons (pvs_setIdx (i := 0) hu1 rfl (.inl rfl) (pv_bin (op := .add) (pv_idx hu1 (pv_var (i := 0) rfl (.inl rfl)) (pv_str rfl) (fun _ _ => rfl)) pv_int) (pv_str rfl))
    (pvs_cons (pvs_asg (pv_bin (op := .mod) (pv_bltT (f := .int) cr_int (by rfl) T.b_int PyProof.Rows.boot_int (pvb_one (pv_bin (op := .add) (pv_idx hu1 (pv_var (i := 0) rfl (.inl rfl)) (pv_str rfl) (fun _ _ => rfl)) (pv_bin (op := .mul) (pv_idx hu1 (pv_var (i := 0) rfl (.inl rfl)) (pv_str rfl) (fun _ _ => rfl)) pv_int)))) pv_int) (pvg_name (i := 3) nd rfl (.inl rfl)))
    (pvs_cons (pvs_asg (pv_bin (op := .mod) (pv_bltT (f := .int) cr_int (by rfl) T.b_int PyProof.Rows.boot_int (pvb_one (pv_bin (op := .add) (pv_bin (op := .mul) (pv_var (i := 3) rfl (.inl rfl)) (pv_var (i := 3) rfl (.inl rfl))) (pv_bin (op := .mul) (pv_idx hu1 (pv_var (i := 0) rfl (.inl rfl)) (pv_str rfl) (fun _ _ => rfl)) pv_int)))) pv_int) (pvg_name (i := 3) nd rfl (.inl rfl)))
    (pvs_cons (pvs_setIdx (i := 0) hu1 rfl (.inl rfl) (pv_var (i := 3) rfl (.inl rfl)) (pv_str rfl))
    (pvs_cons (pvs_ret (pv_bin (op := .mod) (pv_bltT (f := .int) cr_int (by rfl) T.b_int PyProof.Rows.boot_int (pvb_one (pv_bin (op := .fdiv) (pv_var (i := 3) rfl (.inl rfl)) pv_int))) (pv_var (i := 1) rfl (.inl rfl))))
    pvs_nil))))))))
theorem t__law_of (T : Tb P w K mg base C G k) (cd : Value) (A : Around) (ou : List PySem.Env) (s : Shared) (H : Hp) (hr : Room k (A.deeper (envOfC "_law_of" (defScope s__law_of) s.heap.objs.size (He.ga K "_law_of") cd))) (hg : A.guards = some []) :
    PSs (cxOf noCX P w K mg base n__law_of "_law_of" (defScope s__law_of) (He.ga K "_law_of") cd A ou s H fun _ _ _ => False) (defBody s__law_of) (tSs K H C G b__law_of) := by
  have hu1 := room_1 hr
  have hu65 := room_65 hr
  have hu70 := room_70 hr
  have nd := sc__law_of.nd
  refine PSs.nox ?_
  exact (pvs_cons (pvs_ret (pv_idx hu1 (pv_var (i := 1) rfl (.inl rfl)) (pv_fn T.f__law_pick hr hg (by rfl) (pva_fz (pv_var (i := 0) rfl (.inl rfl)) (pva_lent (pv_bltB (f := .len) cr_len (by rfl) T.b_len PySem.boot_len (pvb_one (pv_var (i := 1) rfl (.inl rfl)))) pva_nil))) (fun _ _ => rfl)))
    pvs_nil)
theorem t__law_mixed (T : Tb P w K mg base C G k) (cd : Value) (A : Around) (ou : List PySem.Env) (s : Shared) (H : Hp) (hr : Room k (A.deeper (envOfC "_law_mixed" (defScope s__law_mixed) s.heap.objs.size (He.ga K "_law_mixed") cd))) (hg : A.guards = some []) :
    PSs (cxOf noCX P w K mg base n__law_mixed "_law_mixed" (defScope s__law_mixed) (He.ga K "_law_mixed") cd A ou s H fun _ _ _ => False) (defBody s__law_mixed) (tSs K H C G b__law_mixed) := by
  have hu1 := room_1 hr
  have hu65 := room_65 hr
  have hu70 := room_70 hr
  have nd := sc__law_mixed.nd
  refine PSs.nox ?_
  exact (pvs_cons (pvs_asg (pv_bltT (f := .list) cr_list (by rfl) T.b_list PyProof.Rows.boot_list (pvb_one (pv_var (i := 1) rfl (.inl rfl)))) (pvg_name (i := 2) nd rfl (.inr rfl)))
    (pvs_cons (pvs_ret (pv_lc (own := [("lap", 3)]) rfl nd (pvi_rng (by rfl) T.b_range (pv_bltB (f := .len) cr_len (by rfl) T.b_len PySem.boot_len (pvb_one (pv_var (i := 2) rfl (.inr (.inl rfl)))))) (show BlkOk n__law_mixed (defScope s__law_mixed) _ [("lap", 3)] from ⟨rfl, by decide +kernel, by decide +kernel, by decide +kernel, by decide +kernel⟩) (by decide) (fun _ _ _ _ _ => (pvg_name (i := 3) nd rfl (.inl rfl))) (fun _ _ _ _ _ => pvc_nil) (fun _ _ _ _ _ => (pv_mut (m := .pop) (i := 2) PySem.F.slot_list_pop PySem.F.type_list_pop rfl (.inr (.inl (by rfl))) (pvl_cons (pv_fn T.f__law_pick hr hg (by rfl) (pva_fz (pv_var (i := 0) rfl (.inr (.inl (by rfl)))) (pva_lent (pv_bltB (f := .len) cr_len (by rfl) T.b_len PySem.boot_len (pvb_one (pv_var (i := 2) rfl (.inr (.inl (by rfl)))))) pva_nil))) pvl_nil) (by rfl) (by rfl) (by rfl) (by rfl) (by rfl)))))
    pvs_nil))
theorem t__law_words (T : Tb P w K mg base C G k) (cd : Value) (A : Around) (ou : List PySem.Env) (s : Shared) (H : Hp) (hr : Room k (A.deeper (envOfC "_law_words" (defScope s__law_words) s.heap.objs.size (He.ga K "_law_words") cd))) (hg : A.guards = some []) :
    PSs (cxOf noCX P w K mg base n__law_words "_law_words" (defScope s__law_words) (He.ga K "_law_words") cd A ou s H fun _ _ _ => False) (defBody s__law_words) (tSs K H C G b__law_words) := by
  have hu1 := room_1 hr
  have hu65 := room_65 hr
  have hu70 := room_70 hr
  have nd := sc__law_words.nd
  refine PSs.nox ?_
  exact (pvs_cons (pvs_asg (pv_lst (pvl_cons (pv_str rfl) (pvl_cons (pv_str rfl) (pvl_cons (pv_str rfl) (pvl_cons (pv_str rfl) (pvl_cons (pv_str rfl) (pvl_cons (pv_str rfl) (pvl_cons (pv_str rfl) (pvl_cons (pv_str rfl) (pvl_cons (pv_str rfl) (pvl_cons (pv_str rfl) (pvl_cons (pv_str rfl) (pvl_cons (pv_str rfl) (pvl_cons (pv_str rfl) pvl_nil))))))))))))) (by decide)) (pvg_name (i := 2) nd rfl (.inl rfl)))
    (pvs_cons (pvs_ret (pv_bltB (f := .sorted) (cr_sorted rfl) (by rfl) T.b_sorted PyProof.Rows.boot_sorted (pvb_one (pv_slice (pv_fn T.f__law_mixed hr hg (by rfl) (pva_fz (pv_var (i := 0) rfl (.inl rfl)) (pva_lent (pv_var (i := 2) rfl (.inl rfl)) pva_nil))) pvo_none (pvo_some (pv_var (i := 1) rfl (.inl rfl)))))))
    pvs_nil))
theorem t__law_members (T : Tb P w K mg base C G k) (cd : Value) (A : Around) (ou : List PySem.Env) (s : Shared) (H : Hp) (hr : Room k (A.deeper (envOfC "_law_members" (defScope s__law_members) s.heap.objs.size (He.ga K "_law_members") cd))) (hg : A.guards = some []) :
    PSs (cxOf noCX P w K mg base n__law_members "_law_members" (defScope s__law_members) (He.ga K "_law_members") cd A ou s H fun _ _ _ => False) (defBody s__law_members) (tSs K H C G b__law_members) := by
  have hu1 := room_1 hr
  have hu65 := room_65 hr
  have hu70 := room_70 hr
  have nd := sc__law_members.nd
  refine PSs.nox ?_
  exact (pvs_cons (pvs_ret (pv_ite (pvt_cmp (op := .mem) hu65 (pv_idx hu1 (pv_var (i := 0) rfl (.inl rfl)) pv_int (fun _ _ => rfl)) (pv_tup (pvl_cons (pv_str rfl) (pvl_cons (pv_str rfl) pvl_nil)) (by decide)) (by rfl)) (pv_lst pvl_nil (by decide)) (pv_bltT (f := .list) cr_list (by rfl) T.b_list PyProof.Rows.boot_list (pvb_one (pv_slice (pv_var (i := 0) rfl (.inl rfl)) (pvo_some pv_int) pvo_none)))))
    pvs_nil)
theorem t__law_sheet (T : Tb P w K mg base C G k) (cd : Value) (A : Around) (ou : List PySem.Env) (s : Shared) (H : Hp) (hr : Room k (A.deeper (envOfC "_law_sheet" (defScope s__law_sheet) s.heap.objs.size (He.ga K "_law_sheet") cd))) (hg : A.guards = some []) :
    PSs (cxOf noCX P w K mg base n__law_sheet "_law_sheet" (defScope s__law_sheet) (He.ga K "_law_sheet") cd A ou s H fun _ _ _ => False) (defBody s__law_sheet) (tSs K H C G b__law_sheet) := by
  have hu1 := room_1 hr
  have hu65 := room_65 hr
  have hu70 := room_70 hr
  have nd := sc__law_sheet.nd
  refine PSs.nox ?_
  exact (pvs_cons (pvs_par2 (i := 3) (j := 4) rfl nd rfl rfl (by decide) rfl rfl (pv_lst pvl_nil (by decide)) (pv_bin (op := .add) pv_int (pv_fn T.f__law_pick hr hg (by rfl) (pva_fz (pv_var (i := 0) rfl (.inl rfl)) (pva_lent (pv_var (i := 2) rfl (.inl rfl)) pva_nil)))))
    (pvs_cons (pvs_for (dead := [5, 6, 7, 8]) PassesOwn.never rfl (pvi_rng (by rfl) T.b_range (pv_var (i := 4) rfl (.inl rfl))) (pvg_name (i := 5) nd rfl (.inl rfl)) (pvs_cons (pvs_asg (pv_lst (pvl_cons (pv_str rfl) (pvl_cons (pv_str rfl) (pvl_cons (pv_str rfl) (pvl_cons (pv_str rfl) (pvl_cons (pv_str rfl) (pvl_cons (pv_str rfl) (pvl_cons (pv_str rfl) pvl_nil))))))) (by decide)) (pvg_name (i := 6) nd rfl (.inl rfl)))
    (pvs_cons (pvs_asg (pv_ite (pvt_cmp (op := .lt) hu65 (pv_bin (op := .add) (pv_var (i := 5) rfl (.inl rfl)) pv_int) (pv_var (i := 4) rfl (.inl rfl)) (by rfl)) (pv_bin (op := .add) (pv_var (i := 6) rfl (.inl rfl)) (pv_lst (pvl_cons (pv_str rfl) (pvl_cons (pv_str rfl) (pvl_cons (pv_str rfl) pvl_nil))) (by decide))) (pv_var (i := 6) rfl (.inl rfl))) (pvg_name (i := 6) nd rfl (.inl rfl)))
    (pvs_cons (pvs_asg (pv_ite (pvt_cmp (op := .gt) hu65 (pv_var (i := 5) rfl (.inl rfl)) pv_int (by rfl)) (pv_fn T.f__law_of hr hg (by rfl) (pva_fz (pv_var (i := 0) rfl (.inl rfl)) (pva_lent (pv_var (i := 6) rfl (.inl rfl)) pva_nil))) (pv_str rfl)) (pvg_name (i := 7) nd rfl (.inl rfl)))
    (pvs_cons (pvs_asg (pv_lst (pvl_cons (pv_bin (op := .sub) (pv_bin (op := .sub) (pv_var (i := 5) rfl (.inl rfl)) pv_int) (pv_fn T.f__law_pick hr hg (by rfl) (pva_fz (pv_var (i := 0) rfl (.inl rfl)) (pva_lent (pv_bltB (f := .min) (cr_min2 rfl) (by rfl) T.b_min PyProof.Rows.boot_min (pvb_cons (pv_var (i := 5) rfl (.inl rfl)) (pvb_one pv_int))) pva_nil)))) (pvl_cons (pv_fn T.f__law_pick hr hg (by rfl) (pva_fz (pv_var (i := 0) rfl (.inl rfl)) (pva_lent (pv_var (i := 5) rfl (.inl rfl)) pva_nil))) pvl_nil)) (by decide)) (pvg_name (i := 8) nd rfl (.inl rfl)))
    (pvs_cons (pvs_if (pvt_cmp (op := .mem) hu65 (pv_var (i := 7) rfl (.inl rfl)) (pv_tup (pvl_cons (pv_str rfl) (pvl_cons (pv_str rfl) pvl_nil)) (by decide)) (by rfl)) (pvs_cons (pvs_expr (pv_mut (m := .append) (i := 3) PySem.F.slot_list_append PySem.F.type_list_append rfl (.inl rfl) (pvl_cons (pv_ite (pvt_cmp (op := .eq) hu65 (pv_var (i := 7) rfl (.inl rfl)) (pv_str rfl) (by rfl)) (pv_tup (pvl_cons (pv_str rfl) (pvl_cons (pv_fn T.f__law_of hr hg (by rfl) (pva_fz (pv_var (i := 0) rfl (.inl rfl)) (pva_lent (pv_var (i := 1) rfl (.inl rfl)) pva_nil))) pvl_nil)) (by decide)) (pv_tup (pvl_cons (pv_str rfl) pvl_nil) (by decide))) pvl_nil) (by rfl) (by rfl) (by rfl) (by rfl) (by rfl)))
    pvs_nil) (pvs_cons (pvs_if (pvt_cmp (op := .eq) hu65 (pv_var (i := 7) rfl (.inl rfl)) (pv_str rfl) (by rfl)) (pvs_cons (pvs_expr (pv_mut (m := .append) (i := 3) PySem.F.slot_list_append PySem.F.type_list_append rfl (.inl rfl) (pvl_cons (pv_tup (pvl_cons (pv_str rfl) (pvl_cons (pv_idx hu1 (pv_var (i := 8) rfl (.inl rfl)) pv_int (fun _ _ => rfl)) pvl_nil)) (by decide)) pvl_nil) (by rfl) (by rfl) (by rfl) (by rfl) (by rfl)))
    pvs_nil) (pvs_cons (pvs_expr (pv_mut (m := .append) (i := 3) PySem.F.slot_list_append PySem.F.type_list_append rfl (.inl rfl) (pvl_cons (pv_bin (op := .add) (pv_tup (pvl_cons (pv_var (i := 7) rfl (.inl rfl)) pvl_nil) (by decide)) (pv_bltT (f := .tuple) cr_tuple (by rfl) T.b_tuple PyProof.Rows.boot_tuple (pvb_one (pv_fn T.f__law_mixed hr hg (by rfl) (pva_fz (pv_var (i := 0) rfl (.inl rfl)) (pva_lent (pv_var (i := 8) rfl (.inl rfl)) pva_nil)))))) pvl_nil) (by rfl) (by rfl) (by rfl) (by rfl) (by rfl)))
    pvs_nil))
    pvs_nil))
    pvs_nil))))))
    (pvs_cons (pvs_ret (pv_bltT (f := .tuple) cr_tuple (by rfl) T.b_tuple PyProof.Rows.boot_tuple (pvb_one (pv_var (i := 3) rfl (.inl rfl)))))
    pvs_nil)))
theorem t__law_put (T : Tb P w K mg base C G k) (cd : Value) (A : Around) (ou : List PySem.Env) (s : Shared) (H : Hp) (hr : Room k (A.deeper (envOfC "_law_put" (defScope s__law_put) s.heap.objs.size (He.ga K "_law_put") cd))) (hg : A.guards = some []) :
    PSs (cxOf noCX P w K mg base n__law_put "_law_put" (defScope s__law_put) (He.ga K "_law_put") cd A ou s H fun _ _ _ => False) (defBody s__law_put) (tSs K H C G b__law_put) := by
  have hu1 := room_1 hr
  have hu65 := room_65 hr
  have hu70 := room_70 hr
  have nd := sc__law_put.nd
  refine PSs.nox ?_
  exact (pvs_cons (pvs_parT2 (i := 3) (j := 4) rfl nd rfl rfl (.inl rfl) (.inr rfl) (pv_bltT (f := .list) cr_list (by rfl) T.b_list PyProof.Rows.boot_list (pvb_one (pv_var (i := 1) rfl (.inl rfl)))) (pv_bltB (f := .len) cr_len (by rfl) T.b_len PySem.boot_len (pvb_one (pv_var (i := 1) rfl (.inl rfl)))))
    (pvs_cons (pvs_for (dead := [5, 6]) PassesOwn.never rfl (pvi_seq (pv_var (i := 2) rfl (.inl rfl))) (pvg_name (i := 5) nd rfl (.inl rfl)) (pvs_cons (pvs_asg (pv_bltT (f := .tuple) cr_tuple (by rfl) T.b_tuple PyProof.Rows.boot_tuple (pvb_one (pv_lc (own := [("k", 7)]) rfl nd (pvi_seq (pv_fn T.f__law_members hr hg (by rfl) (pva_lent (pv_var (i := 5) rfl (.inl rfl)) pva_nil))) (show BlkOk n__law_put (defScope s__law_put) _ [("k", 7)] from ⟨rfl, by decide +kernel, by decide +kernel, by decide +kernel, by decide +kernel⟩) (by decide) (fun _ _ _ _ _ => (pvg_name (i := 7) nd rfl (.inl rfl))) (fun _ _ _ _ _ => pvc_nil) (fun _ _ _ _ _ => (pv_bin (op := .add) (pv_var (i := 7) rfl (.inl rfl)) (pv_var (i := 4) rfl (.inr (.inl (by rfl))))))))) (pvg_name (i := 6) nd rfl (.inl rfl)))
    (pvs_cons (pvs_expr (pv_mut (m := .append) (i := 3) PySem.F.slot_list_append PySem.F.type_list_append rfl (.inl rfl) (pvl_cons (pv_ite (pvt_cmp (op := .ne) hu65 (pv_var (i := 6) rfl (.inl rfl)) (pv_tup pvl_nil (by decide)) (by rfl)) (pv_bin (op := .add) (pv_slice (pv_var (i := 5) rfl (.inl rfl)) pvo_none (pvo_some pv_int)) (pv_var (i := 6) rfl (.inl rfl))) (pv_var (i := 5) rfl (.inl rfl))) pvl_nil) (by rfl) (by rfl) (by rfl) (by rfl) (by rfl)))
    pvs_nil)))
    (pvs_cons (pvs_ret (pv_bin (op := .add) (pv_bltT (f := .tuple) cr_tuple (by rfl) T.b_tuple PyProof.Rows.boot_tuple (pvb_one (pv_var (i := 3) rfl (.inl rfl)))) (pv_tup (pvl_cons (pv_tup (pvl_cons (pv_var (i := 0) rfl (.inl rfl)) (pvl_cons (pv_bin (op := .sub) (pv_var (i := 4) rfl (.inr (.inl rfl))) pv_int) (pvl_cons (pv_bin (op := .sub) (pv_bltB (f := .len) cr_len (by rfl) T.b_len PySem.boot_len (pvb_one (pv_var (i := 3) rfl (.inl rfl)))) pv_int) pvl_nil))) (by decide)) pvl_nil) (by decide))))
    pvs_nil)))
theorem t__law_denied (T : Tb P w K mg base C G k) (cd : Value) (A : Around) (ou : List PySem.Env) (s : Shared) (H : Hp) (hr : Room k (A.deeper (envOfC "_law_denied" (defScope s__law_denied) s.heap.objs.size (He.ga K "_law_denied") cd))) (hg : A.guards = some []) :
    PSs (cxOf noCX P w K mg base n__law_denied "_law_denied" (defScope s__law_denied) (He.ga K "_law_denied") cd A ou s H fun _ _ _ => False) (defBody s__law_denied) (tSs K H C G b__law_denied) := by
  have hu1 := room_1 hr
  have hu65 := room_65 hr
  have hu70 := room_70 hr
  have nd := sc__law_denied.nd
  refine PSs.nox ?_
  exact (pvs_cons (pvs_ret (pv_bin (op := .add) (pv_var (i := 0) rfl (.inl rfl)) (pv_tup (pvl_cons (pv_tup (pvl_cons (pv_str rfl) (pvl_cons (pv_bin (op := .sub) (pv_bltB (f := .len) cr_len (by rfl) T.b_len PySem.boot_len (pvb_one (pv_var (i := 0) rfl (.inl rfl)))) pv_int) pvl_nil)) (by decide)) pvl_nil) (by decide))))
    pvs_nil)
theorem t__law_mirrored (T : Tb P w K mg base C G k) (cd : Value) (A : Around) (ou : List PySem.Env) (s : Shared) (H : Hp) (hr : Room k (A.deeper (envOfC "_law_mirrored" (defScope s__law_mirrored) s.heap.objs.size (He.ga K "_law_mirrored") cd))) (hg : A.guards = some []) :
    PSs (cxOf noCX P w K mg base n__law_mirrored "_law_mirrored" (defScope s__law_mirrored) (He.ga K "_law_mirrored") cd A ou s H fun _ _ _ => False) (defBody s__law_mirrored) (tSs K H C G b__law_mirrored) := by
  have hu1 := room_1 hr
  have hu65 := room_65 hr
  have hu70 := room_70 hr
  have nd := sc__law_mirrored.nd
  refine PSs.nox ?_
  exact (pvs_cons (pvs_asg (pv_dict (pds_cons pe_str rfl (pv_str rfl) (pds_cons pe_str rfl (pv_str rfl) pds_nil)) (by simp) (by decide) (by decide)) (pvg_name (i := 1) nd rfl (.inr rfl)))
    (pvs_cons (pvs_ret (pv_bltT (f := .tuple) cr_tuple (by rfl) T.b_tuple PyProof.Rows.boot_tuple (pvb_one (pv_lc (own := [("line", 2)]) rfl nd (pvi_seq (pv_var (i := 0) rfl (.inl rfl))) (show BlkOk n__law_mirrored (defScope s__law_mirrored) _ [("line", 2)] from ⟨rfl, by decide +kernel, by decide +kernel, by decide +kernel, by decide +kernel⟩) (by decide) (fun _ _ _ _ _ => (pvg_name (i := 2) nd rfl (.inl rfl))) (fun _ _ _ _ _ => pvc_nil) (fun _ _ _ _ _ => (pv_bin (op := .add) (pv_tup (pvl_cons (pv_dget2 hu1 (pv_var (i := 1) rfl (.inr (.inl (by rfl)))) (pv_idx hu1 (pv_var (i := 2) rfl (.inl rfl)) pv_int (fun _ _ => rfl)) (pv_idx hu1 (pv_var (i := 2) rfl (.inl rfl)) pv_int (fun _ _ => rfl)) ⟨by rfl, by rfl, by rfl, by rfl⟩) pvl_nil) (by decide)) (pv_slice (pv_var (i := 2) rfl (.inl rfl)) (pvo_some pv_int) pvo_none)))))))
    pvs_nil))
theorem t__law_part (T : Tb P w K mg base C G k) (cd : Value) (A : Around) (ou : List PySem.Env) (s : Shared) (H : Hp) (hr : Room k (A.deeper (envOfC "_law_part" (defScope s__law_part) s.heap.objs.size (He.ga K "_law_part") cd))) (hg : A.guards = some []) :
    PSs (cxOf noCX P w K mg base n__law_part "_law_part" (defScope s__law_part) (He.ga K "_law_part") cd A ou s H fun _ _ _ => False) (defBody s__law_part) (tSs K H C G b__law_part) := by
  have hu1 := room_1 hr
  have hu65 := room_65 hr
  have hu70 := room_70 hr
  have nd := sc__law_part.nd
  refine PSs.nox ?_
  exact (pvs_cons (pvs_asg (pv_lst (pvl_cons (pv_var (i := 1) rfl (.inl rfl)) pvl_nil) (by decide)) (pvg_name (i := 2) nd rfl (.inr rfl)))
    (pvs_cons (pvs_for (dead := [3]) PassesOwn.never rfl (pvi_rngD (by rfl) T.b_range (pv_var (i := 1) rfl (.inl rfl)) (pv_neg pv_int)) (pvg_name (i := 3) nd rfl (.inr rfl)) (pvs_cons (pvs_asg (pv_bin (op := .add) (pv_var (i := 2) rfl (.inr (.inl rfl))) (pv_lc (own := [("n", 4)]) rfl nd (pvi_seq (pv_fn T.f__law_members hr hg (by rfl) (pva_lent (pv_idx hu1 (pv_var (i := 0) rfl (.inl rfl)) (pv_var (i := 3) rfl (.inr (.inl rfl))) (fun _ _ => rfl)) pva_nil))) (show BlkOk n__law_part (defScope s__law_part) _ [("n", 4)] from ⟨rfl, by decide +kernel, by decide +kernel, by decide +kernel, by decide +kernel⟩) (by decide) (fun _ _ _ _ _ => (pvg_name (i := 4) nd rfl (.inl rfl))) (fun _ _ _ _ _ => (pvc_one ((pvt_and (pvt_cmp (op := .mem) hu65 (pv_var (i := 3) rfl (.inr (.inl (by rfl)))) (pv_var (i := 2) rfl (.inr (.inl (by rfl)))) (by rfl)) (pvt_and1 (pvt_cmp (op := .notMem) hu65 (pv_var (i := 4) rfl (.inl rfl)) (pv_var (i := 2) rfl (.inr (.inl (by rfl)))) (by rfl))))).pt)) (fun _ _ _ _ _ => (pv_var (i := 4) rfl (.inl rfl))))) (pvg_name (i := 2) nd rfl (.inr rfl)))
    pvs_nil))
    (pvs_cons (pvs_parT2 (i := 2) (j := 5) rfl nd rfl rfl (.inr rfl) (.inl rfl) (pv_sset rfl (by rfl) T.b_sorted (by rfl) T.b_set (pv_var (i := 2) rfl (.inr (.inl rfl)))) (pv_lst pvl_nil (by decide)))
    (pvs_cons (pvs_for (dead := [3, 6]) PassesOwn.never rfl (pvi_seq (pv_var (i := 2) rfl (.inr (.inl rfl)))) (pvg_name (i := 3) nd rfl (.inr rfl)) (pvs_cons (pvs_asg (pv_bltT (f := .tuple) cr_tuple (by rfl) T.b_tuple PyProof.Rows.boot_tuple (pvb_one (pv_lc (own := [("n", 4)]) rfl nd (pvi_seq (pv_fn T.f__law_members hr hg (by rfl) (pva_lent (pv_idx hu1 (pv_var (i := 0) rfl (.inl rfl)) (pv_var (i := 3) rfl (.inr (.inl rfl))) (fun _ _ => rfl)) pva_nil))) (show BlkOk n__law_part (defScope s__law_part) _ [("n", 4)] from ⟨rfl, by decide +kernel, by decide +kernel, by decide +kernel, by decide +kernel⟩) (by decide) (fun _ _ _ _ _ => (pvg_name (i := 4) nd rfl (.inl rfl))) (fun _ _ _ _ _ => pvc_nil) (fun _ _ _ _ _ => (pv_index hu65 (pv_var (i := 2) rfl (.inr (.inl (by rfl)))) (pv_var (i := 4) rfl (.inl rfl)) (by rfl) (by rfl) (by rfl)))))) (pvg_name (i := 6) nd rfl (.inl rfl)))
    (pvs_cons (pvs_expr (pv_mut (m := .append) (i := 5) PySem.F.slot_list_append PySem.F.type_list_append rfl (.inl rfl) (pvl_cons (pv_ite (pvt_cmp (op := .ne) hu65 (pv_var (i := 6) rfl (.inl rfl)) (pv_tup pvl_nil (by decide)) (by rfl)) (pv_bin (op := .add) (pv_slice (pv_idx hu1 (pv_var (i := 0) rfl (.inl rfl)) (pv_var (i := 3) rfl (.inr (.inl rfl))) (fun _ _ => rfl)) pvo_none (pvo_some pv_int)) (pv_var (i := 6) rfl (.inl rfl))) (pv_idx hu1 (pv_var (i := 0) rfl (.inl rfl)) (pv_var (i := 3) rfl (.inr (.inl rfl))) (fun _ _ => rfl))) pvl_nil) (by rfl) (by rfl) (by rfl) (by rfl) (by rfl)))
    pvs_nil)))
    (pvs_cons (pvs_ret (pv_bltT (f := .tuple) cr_tuple (by rfl) T.b_tuple PyProof.Rows.boot_tuple (pvb_one (pv_var (i := 5) rfl (.inl rfl)))))
    pvs_nil)))))
theorem t__law_tidy (T : Tb P w K mg base C G k) (cd : Value) (A : Around) (ou : List PySem.Env) (s : Shared) (H : Hp) (hr : Room k (A.deeper (envOfC "_law_tidy" (defScope s__law_tidy) s.heap.objs.size (He.ga K "_law_tidy") cd))) (hg : A.guards = some []) :
    PSs (cxOf noCX P w K mg base n__law_tidy "_law_tidy" (defScope s__law_tidy) (He.ga K "_law_tidy") cd A ou s H fun _ _ _ => False) (defBody s__law_tidy) (tSs K H C G b__law_tidy) := by
  have hu1 := room_1 hr
  have hu65 := room_65 hr
  have hu70 := room_70 hr
  have nd := sc__law_tidy.nd
  refine PSs.nox ?_
  exact (pvs_cons (pvs_parT2 (i := 1) (j := 2) rfl nd rfl rfl (.inl rfl) (.inr rfl) (pv_lst pvl_nil (by decide)) (pv_lst pvl_nil (by decide)))
    (pvs_cons (pvs_for (dead := [3, 4]) PassesOwn.never rfl (pvi_seq (pv_fn T.f__law_part hr hg (by rfl) (pva_lent (pv_var (i := 0) rfl (.inl rfl)) (pva_fz (pv_bin (op := .sub) (pv_bltB (f := .len) cr_len (by rfl) T.b_len PySem.boot_len (pvb_one (pv_var (i := 0) rfl (.inl rfl)))) pv_int) pva_nil)))) (pvg_name (i := 3) nd rfl (.inl rfl)) (pvs_cons (pvs_asg (pv_bltT (f := .tuple) cr_tuple (by rfl) T.b_tuple PyProof.Rows.boot_tuple (pvb_one (pv_lc (own := [("k", 5)]) rfl nd (pvi_seq (pv_fn T.f__law_members hr hg (by rfl) (pva_lent (pv_var (i := 3) rfl (.inl rfl)) pva_nil))) (show BlkOk n__law_tidy (defScope s__law_tidy) _ [("k", 5)] from ⟨rfl, by decide +kernel, by decide +kernel, by decide +kernel, by decide +kernel⟩) (by decide) (fun _ _ _ _ _ => (pvg_name (i := 5) nd rfl (.inl rfl))) (fun _ _ _ _ _ => pvc_nil) (fun _ _ _ _ _ => (pv_idx hu1 (pv_var (i := 2) rfl (.inr (.inl (by rfl)))) (pv_var (i := 5) rfl (.inl rfl)) (fun _ _ => rfl)))))) (pvg_name (i := 4) nd rfl (.inl rfl)))
    (pvs_cons (pvs_asg (pv_ite (pvt_cmp (op := .ne) hu65 (pv_var (i := 4) rfl (.inl rfl)) (pv_tup pvl_nil (by decide)) (by rfl)) (pv_bin (op := .add) (pv_slice (pv_var (i := 3) rfl (.inl rfl)) pvo_none (pvo_some pv_int)) (pv_var (i := 4) rfl (.inl rfl))) (pv_var (i := 3) rfl (.inl rfl))) (pvg_name (i := 3) nd rfl (.inl rfl)))
    (pvs_cons (pvs_asg (pv_ite (pvt_cmp (op := .mem) hu65 (pv_var (i := 3) rfl (.inl rfl)) (pv_var (i := 1) rfl (.inl rfl)) (by rfl)) (pv_var (i := 1) rfl (.inl rfl)) (pv_bin (op := .add) (pv_var (i := 1) rfl (.inl rfl)) (pv_lst (pvl_cons (pv_var (i := 3) rfl (.inl rfl)) pvl_nil) (by decide)))) (pvg_name (i := 1) nd rfl (.inl rfl)))
    (pvs_cons (pvs_expr (pv_mut (m := .append) (i := 2) PySem.F.slot_list_append PySem.F.type_list_append rfl (.inr (.inl rfl)) (pvl_cons (pv_index hu65 (pv_var (i := 1) rfl (.inl rfl)) (pv_var (i := 3) rfl (.inl rfl)) (by rfl) (by rfl) (by rfl)) pvl_nil) (by rfl) (by rfl) (by rfl) (by rfl) (by rfl)))
    pvs_nil)))))
    (pvs_cons (pvs_ret (pv_bltT (f := .tuple) cr_tuple (by rfl) T.b_tuple PyProof.Rows.boot_tuple (pvb_one (pv_var (i := 1) rfl (.inl rfl)))))
    pvs_nil)))
theorem t__law_need (T : Tb P w K mg base C G k) (cd : Value) (A : Around) (ou : List PySem.Env) (s : Shared) (H : Hp) (hr : Room k (A.deeper (envOfC "_law_need" (defScope s__law_need) s.heap.objs.size (He.ga K "_law_need") cd))) (hg : A.guards = some []) :
    PSs (cxOf noCX P w K mg base n__law_need "_law_need" (defScope s__law_need) (He.ga K "_law_need") cd A ou s H fun _ _ _ => False) (defBody s__law_need) (tSs K H C G b__law_need) := by
  have hu1 := room_1 hr
  have hu65 := room_65 hr
  have hu70 := room_70 hr
  have nd := sc__law_need.nd
  refine PSs.nox ?_
  exact (pvs_cons (pvs_asg (pv_lst (pvl_cons (pv_var (i := 1) rfl (.inl rfl)) pvl_nil) (by decide)) (pvg_name (i := 2) nd rfl (.inr rfl)))
    (pvs_cons (pvs_for (dead := [3]) PassesOwn.never rfl (pvi_rngD (by rfl) T.b_range (pv_var (i := 1) rfl (.inl rfl)) (pv_neg pv_int)) (pvg_name (i := 3) nd rfl (.inr rfl)) (pvs_cons (pvs_asg (pv_bin (op := .add) (pv_var (i := 2) rfl (.inr (.inl rfl))) (pv_lc (own := [("n", 4)]) rfl nd (pvi_seq (pv_fn T.f__law_members hr hg (by rfl) (pva_lent (pv_idx hu1 (pv_var (i := 0) rfl (.inl rfl)) (pv_var (i := 3) rfl (.inr (.inl rfl))) (fun _ _ => rfl)) pva_nil))) (show BlkOk n__law_need (defScope s__law_need) _ [("n", 4)] from ⟨rfl, by decide +kernel, by decide +kernel, by decide +kernel, by decide +kernel⟩) (by decide) (fun _ _ _ _ _ => (pvg_name (i := 4) nd rfl (.inl rfl))) (fun _ _ _ _ _ => (pvc_one ((pvt_and (pvt_cmp (op := .mem) hu65 (pv_var (i := 3) rfl (.inr (.inl (by rfl)))) (pv_var (i := 2) rfl (.inr (.inl (by rfl)))) (by rfl)) (pvt_and1 (pvt_cmp (op := .notMem) hu65 (pv_var (i := 4) rfl (.inl rfl)) (pv_var (i := 2) rfl (.inr (.inl (by rfl)))) (by rfl))))).pt)) (fun _ _ _ _ _ => (pv_var (i := 4) rfl (.inl rfl))))) (pvg_name (i := 2) nd rfl (.inr rfl)))
    pvs_nil))
    (pvs_cons (pvs_ret (pv_sset rfl (by rfl) T.b_sorted (by rfl) T.b_set (pv_var (i := 2) rfl (.inr (.inl rfl)))))
    pvs_nil)))
theorem t__law_turns (T : Tb P w K mg base C G k) (cd : Value) (A : Around) (ou : List PySem.Env) (s : Shared) (H : Hp) (hr : Room k (A.deeper (envOfC "_law_turns" (defScope s__law_turns) s.heap.objs.size (He.ga K "_law_turns") cd))) (hg : A.guards = some []) :
    PSs (cxOf noCX P w K mg base n__law_turns "_law_turns" (defScope s__law_turns) (He.ga K "_law_turns") cd A ou s H fun _ _ _ => False) (defBody s__law_turns) (tSs K H C G b__law_turns) := by
  have hu1 := room_1 hr
  have hu65 := room_65 hr
  have hu70 := room_70 hr
  have nd := sc__law_turns.nd
  refine PSs.nox ?_
  exact (pvs_cons (pvs_asg pv_dnew (pvg_name (i := 1) nd rfl (.inr rfl)))
    (pvs_cons (pvs_for (dead := [2, 3]) PassesOwn.never rfl (pvi_seq (pv_fn T.f__law_need hr hg (by rfl) (pva_lent (pv_var (i := 0) rfl (.inr (.inl rfl))) (pva_fz (pv_bin (op := .sub) (pv_bltB (f := .len) cr_len (by rfl) T.b_len PySem.boot_len (pvb_one (pv_var (i := 0) rfl (.inr (.inl rfl))))) pv_int) pva_nil)))) (pvg_name (i := 2) nd rfl (.inr rfl)) (pvs_cons (pvs_if (pvt_cmp (op := .mem) hu65 (pv_idx hu1 (pv_idx hu1 (pv_var (i := 0) rfl (.inr (.inl rfl))) (pv_var (i := 2) rfl (.inr (.inl rfl))) (fun _ _ => rfl)) pv_int (fun _ _ => rfl)) (pv_tup (pvl_cons (pv_str rfl) (pvl_cons (pv_str rfl) pvl_nil)) (by decide)) (by rfl)) (pvs_cons (pvs_setLc (i := 3) (own := [("n", 4)]) rfl nd rfl rfl (sw_true rfl rfl (by rfl) (by rfl)) (pvi_seq (pv_fn T.f__law_need hr hg (by rfl) (pva_lent (pv_var (i := 0) rfl (.inr (.inl rfl))) (pva_fz (pv_var (i := 2) rfl (.inr (.inl rfl))) pva_nil)))) (show BlkOk n__law_turns (defScope s__law_turns) _ [("n", 4)] from ⟨rfl, by decide +kernel, by decide +kernel, by decide +kernel, by decide +kernel⟩) (by decide) (fun _ _ _ _ _ => (pvg_name (i := 4) nd rfl (.inl rfl))) (fun _ _ _ _ _ => (pvc_one (pvt_cmp (op := .mem) hu65 (pv_var (i := 4) rfl (.inl rfl)) (pv_var (i := 1) rfl (.inr (.inl (by rfl)))) (by rfl)))) (fun _ _ _ _ _ => (pv_bin (op := .add) (pv_idx hu1 (pv_var (i := 1) rfl (.inr (.inl (by rfl)))) (pv_var (i := 4) rfl (.inl rfl)) (fun _ _ => rfl)) (pv_bltT (f := .int) cr_int (by rfl) T.b_int PyProof.Rows.boot_int (pvb_one (pv_cmp (op := .ne) hu65 (pv_idx hu1 (pv_idx hu1 (pv_var (i := 0) rfl (.inr (.inl (by rfl)))) (pv_var (i := 4) rfl (.inl rfl)) (fun _ _ => rfl)) pv_int (fun _ _ => rfl)) (pv_idx hu1 (pv_idx hu1 (pv_var (i := 0) rfl (.inr (.inl (by rfl)))) (pv_var (i := 2) rfl (.inr (.inl (by rfl)))) (fun _ _ => rfl)) pv_int (fun _ _ => rfl)) (by rfl)))))))
    (pvs_cons (pvs_setIdx (i := 1) hu1 rfl (.inr (.inl rfl)) (pv_bltB (f := .maxL) (cr_maxL rfl) (by rfl) T.b_max PyProof.Rows.boot_max (pvb_one (pv_bin (op := .add) (pv_lst (pvl_cons pv_int pvl_nil) (by decide)) (pv_var (i := 3) rfl (.inl rfl))))) (pv_var (i := 2) rfl (.inr (.inl rfl))))
    pvs_nil)) pvs_nil)
    pvs_nil))
    (pvs_cons (pvs_ret (pv_bltB (f := .maxL) (cr_maxL rfl) (by rfl) T.b_max PyProof.Rows.boot_max (pvb_one (pv_bin (op := .add) (pv_lst (pvl_cons pv_int pvl_nil) (by decide)) (pv_dvals rfl (by rfl) T.b_list (pv_var (i := 1) rfl (.inr (.inl rfl))))))))
    pvs_nil)))
theorem t__law_kept_sheet (T : Tb P w K mg base C G k) (cd : Value) (A : Around) (ou : List PySem.Env) (s : Shared) (H : Hp) (hr : Room k (A.deeper (envOfC "_law_kept_sheet" (defScope s__law_kept_sheet) s.heap.objs.size (He.ga K "_law_kept_sheet") cd))) (hg : A.guards = some []) :
    PSs (cxOf noCX P w K mg base n__law_kept_sheet "_law_kept_sheet" (defScope s__law_kept_sheet) (He.ga K "_law_kept_sheet") cd A ou s H fun _ _ _ => False) (defBody s__law_kept_sheet) (tSs K H C G b__law_kept_sheet) := by
  have hu1 := room_1 hr
  have hu65 := room_65 hr
  have hu70 := room_70 hr
  have nd := sc__law_kept_sheet.nd
  refine PSs.nox ?_
  exact (pvs_cons (pvs_par2 (i := 3) (j := 4) rfl nd rfl rfl (by decide) rfl rfl (pv_fn T.f__law_sheet hr hg (by rfl) (pva_fz (pv_var (i := 0) rfl (.inl rfl)) (pva_lent (pv_var (i := 1) rfl (.inl rfl)) (pva_lent (pv_var (i := 2) rfl (.inl rfl)) pva_nil)))) (pv_fn T.f__law_pick hr hg (by rfl) (pva_fz (pv_var (i := 0) rfl (.inl rfl)) (pva_lent pv_int pva_nil))))
    (pvs_cons (pvs_asg (pv_idx hu1 (pv_lst (pvl_cons pv_dnew (pvl_cons pv_dnew (pvl_cons (pv_dict (pds_cons pe_str rfl (pv_str rfl) pds_nil) (by simp) (by decide) (by decide)) (pvl_cons (pv_dict (pds_cons pe_str rfl (pv_str rfl) pds_nil) (by simp) (by decide) (by decide)) (pvl_cons (pv_dict (pds_cons pe_str rfl (pv_str rfl) (pds_cons pe_str rfl (pv_str rfl) pds_nil)) (by simp) (by decide) (by decide)) pvl_nil))))) (by decide)) (pv_var (i := 4) rfl (.inl rfl)) (fun _ _ => rfl)) (pvg_name (i := 5) nd rfl (.inr rfl)))
    (pvs_cons (pvs_ret (pv_bltT (f := .tuple) cr_tuple (by rfl) T.b_tuple PyProof.Rows.boot_tuple (pvb_one (pv_lc (own := [("line", 6)]) rfl nd (pvi_seq (pv_var (i := 3) rfl (.inl rfl))) (show BlkOk n__law_kept_sheet (defScope s__law_kept_sheet) _ [("line", 6)] from ⟨rfl, by decide +kernel, by decide +kernel, by decide +kernel, by decide +kernel⟩) (by decide) (fun _ _ _ _ _ => (pvg_name (i := 6) nd rfl (.inl rfl))) (fun _ _ _ _ _ => pvc_nil) (fun _ _ _ _ _ => (pv_bin (op := .add) (pv_tup (pvl_cons (pv_dget2 hu1 (pv_var (i := 5) rfl (.inr (.inl (by rfl)))) (pv_idx hu1 (pv_var (i := 6) rfl (.inl rfl)) pv_int (fun _ _ => rfl)) (pv_idx hu1 (pv_var (i := 6) rfl (.inl rfl)) pv_int (fun _ _ => rfl)) ⟨by rfl, by rfl, by rfl, by rfl⟩) pvl_nil) (by decide)) (pv_slice (pv_var (i := 6) rfl (.inl rfl)) (pvo_some pv_int) pvo_none)))))))
    pvs_nil)))
theorem t__law_some_sheet (T : Tb P w K mg base C G k) (cd : Value) (A : Around) (ou : List PySem.Env) (s : Shared) (H : Hp) (hr : Room k (A.deeper (envOfC "_law_some_sheet" (defScope s__law_some_sheet) s.heap.objs.size (He.ga K "_law_some_sheet") cd))) (hg : A.guards = some []) :
    PSs (cxOf noCX P w K mg base n__law_some_sheet "_law_some_sheet" (defScope s__law_some_sheet) (He.ga K "_law_some_sheet") cd A ou s H fun _ _ _ => False) (defBody s__law_some_sheet) (tSs K H C G b__law_some_sheet) := by
  have hu1 := room_1 hr
  have hu65 := room_65 hr
  have hu70 := room_70 hr
  have nd := sc__law_some_sheet.nd
  refine PSs.nox ?_
  exact (pvs_cons (pvs_asg (pv_fn T.f__law_kept_sheet hr hg (by rfl) (pva_fz (pv_var (i := 0) rfl (.inl rfl)) (pva_lent (pv_var (i := 1) rfl (.inl rfl)) (pva_lent (pv_var (i := 2) rfl (.inl rfl)) pva_nil)))) (pvg_name (i := 3) nd rfl (.inl rfl)))
    (pvs_cons (pvs_if (pvt_cmp (op := .eq) hu65 (pv_fn T.f__law_pick hr hg (by rfl) (pva_fz (pv_var (i := 0) rfl (.inl rfl)) (pva_lent pv_int pva_nil))) pv_int (by rfl)) (pvs_cons (pvs_asg (pv_fn T.f__law_of hr hg (by rfl) (pva_fz (pv_var (i := 0) rfl (.inl rfl)) (pva_lent (pv_lst (pvl_cons (pv_str rfl) (pvl_cons (pv_str rfl) (pvl_cons (pv_str rfl) (pvl_cons (pv_str rfl) pvl_nil)))) (by decide)) pva_nil))) (pvg_name (i := 4) nd rfl (.inl rfl)))
    (pvs_cons (pvs_asg (pv_fn T.f__law_put hr hg (by rfl) (pva_fz (pv_var (i := 4) rfl (.inl rfl)) (pva_lent (pv_var (i := 3) rfl (.inl rfl)) (pva_lent (pv_fn T.f__law_kept_sheet hr hg (by rfl) (pva_fz (pv_var (i := 0) rfl (.inl rfl)) (pva_lent (pv_var (i := 1) rfl (.inl rfl)) (pva_lent (pv_var (i := 2) rfl (.inl rfl)) pva_nil)))) pva_nil)))) (pvg_name (i := 3) nd rfl (.inl rfl)))
    pvs_nil)) pvs_nil)
    (pvs_cons (pvs_ret (pv_ite (pvt_cmp (op := .eq) hu65 (pv_fn T.f__law_pick hr hg (by rfl) (pva_fz (pv_var (i := 0) rfl (.inl rfl)) (pva_lent pv_int pva_nil))) pv_int (by rfl)) (pv_fn T.f__law_denied hr hg (by rfl) (pva_lent (pv_var (i := 3) rfl (.inl rfl)) pva_nil)) (pv_var (i := 3) rfl (.inl rfl))))
    pvs_nil)))
theorem t__law_ladder (T : Tb P w K mg base C G k) (cd : Value) (A : Around) (ou : List PySem.Env) (s : Shared) (H : Hp) (hr : Room k (A.deeper (envOfC "_law_ladder" (defScope s__law_ladder) s.heap.objs.size (He.ga K "_law_ladder") cd))) (hg : A.guards = some []) :
    PSs (cxOf noCX P w K mg base n__law_ladder "_law_ladder" (defScope s__law_ladder) (He.ga K "_law_ladder") cd A ou s H fun _ _ _ => False) (defBody s__law_ladder) (tSs K H C G b__law_ladder) := by
  have hu1 := room_1 hr
  have hu65 := room_65 hr
  have hu70 := room_70 hr
  have nd := sc__law_ladder.nd
  refine PSs.nox ?_
  exact (pvs_cons (pvs_asg (pv_tup (pvl_cons (pv_tup (pvl_cons (pv_tup (pvl_cons (pv_str rfl) (pvl_cons (pv_str rfl) pvl_nil)) (by decide)) pvl_nil) (by decide)) (pvl_cons (pv_str rfl) (pvl_cons pv_int pvl_nil))) (by decide)) (pvg_tup rfl (pvgs_cons (pvg_name (i := 2) nd rfl (.inl rfl)) (pvgs_cons (pvg_name (i := 3) nd rfl (.inl rfl)) (pvgs_cons (pvg_name (i := 4) nd rfl (.inl rfl)) pvgs_nil)))))
    (pvs_cons (pvs_for (dead := [5, 6, 7, 8]) PassesOwn.never rfl (pvi_rng (by rfl) T.b_range (pv_var (i := 1) rfl (.inl rfl))) (pvg_name (i := 5) nd rfl (.inl rfl)) (pvs_cons (pvs_asg (pv_fn T.f__law_of hr hg (by rfl) (pva_fz (pv_var (i := 0) rfl (.inl rfl)) (pva_lent (pv_lst (pvl_cons (pv_str rfl) (pvl_cons (pv_str rfl) pvl_nil)) (by decide)) pva_nil))) (pvg_name (i := 6) nd rfl (.inl rfl)))
    (pvs_cons (pvs_par2 (i := 4) (j := 3) rfl nd rfl rfl (by decide) rfl rfl (pv_bin (op := .add) (pv_var (i := 4) rfl (.inl rfl)) (pv_bltT (f := .int) cr_int (by rfl) T.b_int PyProof.Rows.boot_int (pvb_one (pv_cmp (op := .notMem) hu65 (pv_var (i := 3) rfl (.inl rfl)) (pv_tup (pvl_cons (pv_str rfl) (pvl_cons (pv_var (i := 6) rfl (.inl rfl)) pvl_nil)) (by decide)) (by rfl))))) (pv_var (i := 6) rfl (.inl rfl)))
    (pvs_cons (pvs_asg (pv_bin (op := .add) (pv_var (i := 2) rfl (.inl rfl)) (pv_tup (pvl_cons (pv_bin (op := .add) (pv_tup (pvl_cons (pv_var (i := 6) rfl (.inl rfl)) pvl_nil) (by decide)) (pv_bltT (f := .tuple) cr_tuple (by rfl) T.b_tuple PyProof.Rows.boot_tuple (pvb_one (pv_fn T.f__law_mixed hr hg (by rfl) (pva_fz (pv_var (i := 0) rfl (.inl rfl)) (pva_lent (pv_lst (pvl_cons (pv_bin (op := .sub) (pv_bltB (f := .len) cr_len (by rfl) T.b_len PySem.boot_len (pvb_one (pv_var (i := 2) rfl (.inl rfl)))) pv_int) (pvl_cons pv_int pvl_nil)) (by decide)) pva_nil)))))) pvl_nil) (by decide))) (pvg_name (i := 2) nd rfl (.inl rfl)))
    (pvs_cons (pvs_for (dead := [7, 8]) PassesOwn.never rfl (pvi_rng (by rfl) T.b_range (pv_fn T.f__law_pick hr hg (by rfl) (pva_fz (pv_var (i := 0) rfl (.inl rfl)) (pva_lent pv_int pva_nil)))) (pvg_name (i := 7) nd rfl (.inl rfl)) (pvs_cons (pvs_asg (pv_bin (op := .sub) (pv_bltB (f := .len) cr_len (by rfl) T.b_len PySem.boot_len (pvb_one (pv_var (i := 2) rfl (.inl rfl)))) pv_int) (pvg_name (i := 8) nd rfl (.inl rfl)))
    (pvs_cons (pvs_asg (pv_bin (op := .add) (pv_var (i := 2) rfl (.inl rfl)) (pv_tup (pvl_cons (pv_fn T.f__law_of hr hg (by rfl) (pva_fz (pv_var (i := 0) rfl (.inl rfl)) (pva_lent (pv_lst (pvl_cons (pv_tup (pvl_cons (pv_str rfl) (pvl_cons (pv_var (i := 8) rfl (.inl rfl)) pvl_nil)) (by decide)) (pvl_cons (pv_tup (pvl_cons (pv_str rfl) (pvl_cons (pv_var (i := 8) rfl (.inl rfl)) (pvl_cons pv_int pvl_nil))) (by decide)) (pvl_cons (pv_tup (pvl_cons (pv_str rfl) (pvl_cons pv_int (pvl_cons (pv_var (i := 8) rfl (.inl rfl)) pvl_nil))) (by decide)) pvl_nil))) (by decide)) pva_nil))) pvl_nil) (by decide))) (pvg_name (i := 2) nd rfl (.inl rfl)))
    pvs_nil)))
    pvs_nil)))))
    (pvs_cons (pvs_ret (pv_tup (pvl_cons (pv_var (i := 2) rfl (.inl rfl)) (pvl_cons (pv_var (i := 4) rfl (.inl rfl)) pvl_nil)) (by decide)))
    pvs_nil)))
theorem t__law_tall (T : Tb P w K mg base C G k) (cd : Value) (A : Around) (ou : List PySem.Env) (s : Shared) (H : Hp) (hr : Room k (A.deeper (envOfC "_law_tall" (defScope s__law_tall) s.heap.objs.size (He.ga K "_law_tall") cd))) (hg : A.guards = some []) :
    PSs (cxOf noCX P w K mg base n__law_tall "_law_tall" (defScope s__law_tall) (He.ga K "_law_tall") cd A ou s H fun _ _ _ => False) (defBody s__law_tall) (tSs K H C G b__law_tall) := by
  have hu1 := room_1 hr
  have hu65 := room_65 hr
  have hu70 := room_70 hr
  have nd := sc__law_tall.nd
  refine PSs.nox ?_
  exact (pvs_cons (pvs_asg (pv_tup (pvl_cons (pv_tup (pvl_cons (pv_str rfl) (pvl_cons (pv_str rfl) pvl_nil)) (by decide)) pvl_nil) (by decide)) (pvg_name (i := 2) nd rfl (.inl rfl)))
    (pvs_cons (pvs_for (dead := [3, 4]) PassesOwn.never rfl (pvi_rng (by rfl) T.b_range pv_int) (pvg_name (i := 3) nd rfl (.inl rfl)) (pvs_cons (pvs_asg (pv_fn T.f__law_of hr hg (by rfl) (pva_fz (pv_var (i := 0) rfl (.inl rfl)) (pva_lent (pv_var (i := 1) rfl (.inl rfl)) pva_nil))) (pvg_name (i := 4) nd rfl (.inl rfl)))
    (pvs_cons (pvs_asg (pv_bin (op := .add) (pv_var (i := 2) rfl (.inl rfl)) (pv_tup (pvl_cons (pv_ite (pvt_cmp (op := .eq) hu65 (pv_var (i := 4) rfl (.inl rfl)) (pv_str rfl) (by rfl)) (pv_tup (pvl_cons (pv_var (i := 4) rfl (.inl rfl)) (pvl_cons (pv_var (i := 3) rfl (.inl rfl)) pvl_nil)) (by decide)) (pv_tup (pvl_cons (pv_var (i := 4) rfl (.inl rfl)) (pvl_cons (pv_var (i := 3) rfl (.inl rfl)) (pvl_cons (pv_var (i := 3) rfl (.inl rfl)) pvl_nil))) (by decide))) pvl_nil) (by decide))) (pvg_name (i := 2) nd rfl (.inl rfl)))
    pvs_nil)))
    (pvs_cons (pvs_ret (pv_var (i := 2) rfl (.inl rfl)))
    pvs_nil)))
theorem t_law (T : Tb P w K mg base C G k) (cd : Value) (A : Around) (ou : List PySem.Env) (s : Shared) (H : Hp) (hr : Room k (A.deeper (envOfC "law" (defScope s_law) s.heap.objs.size (He.ga K "law") cd))) (hg : A.guards = some []) :
    PSs (cxOf noCX P w K mg base n_law "law" (defScope s_law) (He.ga K "law") cd A ou s H fun _ _ _ => False) (defBody s_law) (tSs K H C G b_law) := by
  have hu1 := room_1 hr
  have hu65 := room_65 hr
  have hu70 := room_70 hr
  have nd := sc_law.nd
  refine PSs.nox ?_
  exact (pvs_cons (pvs_asg (pv_fn T.f__law_source hr hg (by rfl) (pva_lent (pv_var (i := 0) rfl (.inl rfl)) pva_nil)) (pvg_name (i := 1) nd rfl (.inl rfl)))
    (pvs_cons (pvs_for (dead := [2, 3, 4, 5]) PassesOwn.never rfl (pvi_rng (by rfl) T.b_range pv_int) (pvg_name (i := 2) nd rfl (.inl rfl)) (pvs_cons (pvs_asg (pv_fn T.f__law_some_sheet hr hg (by rfl) (pva_fz (pv_var (i := 1) rfl (.inl rfl)) (pva_lent (pv_fn T.f__law_words hr hg (by rfl) (pva_fz (pv_var (i := 1) rfl (.inl rfl)) (pva_lent pv_int pva_nil))) (pva_lent (pv_idx hu1 (pv_lst (pvl_cons pv_int (pvl_cons pv_int (pvl_cons pv_int (pvl_cons pv_int (pvl_cons pv_int pvl_nil))))) (by decide)) (pv_var (i := 2) rfl (.inl rfl)) (fun _ _ => rfl)) pva_nil)))) (pvg_name (i := 3) nd rfl (.inl rfl)))
    (pvs_cons (pvs_par2 (i := 4) (j := 5) rfl nd rfl rfl (by decide) rfl rfl (pv_fn T.f__law_turns hr hg (by rfl) (pva_lent (pv_var (i := 3) rfl (.inl rfl)) pva_nil)) (pv_lst (pvl_cons (pv_var (i := 3) rfl (.inl rfl)) (pvl_cons (pv_fn T.f__law_mirrored hr hg (by rfl) (pva_lent (pv_var (i := 3) rfl (.inl rfl)) pva_nil)) (pvl_cons (pv_fn T.f__law_denied hr hg (by rfl) (pva_lent (pv_var (i := 3) rfl (.inl rfl)) pva_nil)) (pvl_cons (pv_fn T.f__law_tidy hr hg (by rfl) (pva_lent (pv_var (i := 3) rfl (.inl rfl)) pva_nil)) pvl_nil)))) (by decide)))
    (pvs_cons (pvs_if (pvt_cmp (op := .ne) hu65 (pv_bltB (f := .repr) (cr_repr hg hu70) (by rfl) T.b_repr PyProof.Rows.boot_repr (pvb_one (pv_lc (own := [("one", 6)]) rfl nd (pvi_seq (pv_var (i := 5) rfl (.inl rfl))) (show BlkOk n_law (defScope s_law) _ [("one", 6)] from ⟨rfl, by decide +kernel, by decide +kernel, by decide +kernel, by decide +kernel⟩) (by decide) (fun _ _ _ _ _ => (pvg_name (i := 6) nd rfl (.inl rfl))) (fun _ _ _ _ _ => pvc_nil) (fun _ _ _ _ _ => (pv_fn T.f_turns hr hg (by rfl) (pva_lent (pv_var (i := 6) rfl (.inl rfl)) pva_nil)))))) (pv_bltB (f := .repr) (cr_repr hg hu70) (by rfl) T.b_repr PyProof.Rows.boot_repr (pvb_one (pv_bin (op := .mul) (pv_lst (pvl_cons (pv_var (i := 4) rfl (.inl rfl)) pvl_nil) (by decide)) pv_int))) (by rfl)) (pvs_cons (pvs_ret pv_bl)
    pvs_nil) pvs_nil)
    pvs_nil))))
    (pvs_cons (pvs_for (dead := [2, 3, 4]) PassesOwn.never rfl (pvi_rng (by rfl) T.b_range pv_int) (pvg_name (i := 2) nd rfl (.inl rfl)) (pvs_cons (pvs_asg (pv_fn T.f__law_ladder hr hg (by rfl) (pva_fz (pv_var (i := 1) rfl (.inl rfl)) (pva_lent (pv_idx hu1 (pv_lst (pvl_cons pv_int (pvl_cons pv_int (pvl_cons pv_int (pvl_cons pv_int pvl_nil)))) (by decide)) (pv_var (i := 2) rfl (.inl rfl)) (fun _ _ => rfl)) pva_nil))) (pvg_tup rfl (pvgs_cons (pvg_name (i := 3) nd rfl (.inl rfl)) (pvgs_cons (pvg_name (i := 4) nd rfl (.inl rfl)) pvgs_nil))))
    (pvs_cons (pvs_if (pvt_cmp (op := .ne) hu65 (pv_bltB (f := .repr) (cr_repr hg hu70) (by rfl) T.b_repr PyProof.Rows.boot_repr (pvb_one (pv_lst (pvl_cons (pv_fn T.f_turns hr hg (by rfl) (pva_lent (pv_var (i := 3) rfl (.inl rfl)) pva_nil)) (pvl_cons (pv_fn T.f_turns hr hg (by rfl) (pva_lent (pv_bin (op := .add) (pv_var (i := 3) rfl (.inl rfl)) (pv_tup (pvl_cons (pv_tup (pvl_cons (pv_str rfl) (pvl_cons (pv_str rfl) pvl_nil)) (by decide)) pvl_nil) (by decide))) pva_nil)) pvl_nil)) (by decide)))) (pv_bltB (f := .repr) (cr_repr hg hu70) (by rfl) T.b_repr PyProof.Rows.boot_repr (pvb_one (pv_lst (pvl_cons (pv_var (i := 4) rfl (.inl rfl)) (pvl_cons pv_int pvl_nil)) (by decide)))) (by rfl)) (pvs_cons (pvs_ret pv_bl)
    pvs_nil) pvs_nil)
    pvs_nil)))
    (pvs_cons (pvs_for (dead := [3, 5]) PassesOwn.never rfl (pvi_seq (pv_lst (pvl_cons (pv_lst (pvl_cons (pv_str rfl) (pvl_cons (pv_str rfl) pvl_nil)) (by decide)) (pvl_cons (pv_lst (pvl_cons (pv_str rfl) (pvl_cons (pv_str rfl) (pvl_cons (pv_str rfl) (pvl_cons (pv_str rfl) pvl_nil)))) (by decide)) pvl_nil)) (by decide))) (pvg_name (i := 5) nd rfl (.inl rfl)) (pvs_cons (pvs_asg (pv_fn T.f__law_tall hr hg (by rfl) (pva_fz (pv_var (i := 1) rfl (.inl rfl)) (pva_lent (pv_var (i := 5) rfl (.inl rfl)) pva_nil))) (pvg_name (i := 3) nd rfl (.inl rfl)))
    (pvs_cons (pvs_if (pvt_cmp (op := .ne) hu65 (pv_bltB (f := .repr) (cr_repr hg hu70) (by rfl) T.b_repr PyProof.Rows.boot_repr (pvb_one (pv_fn T.f_turns hr hg (by rfl) (pva_lent (pv_var (i := 3) rfl (.inl rfl)) pva_nil)))) (pv_bltB (f := .repr) (cr_repr hg hu70) (by rfl) T.b_repr PyProof.Rows.boot_repr (pvb_one (pv_fn T.f__law_turns hr hg (by rfl) (pva_lent (pv_var (i := 3) rfl (.inl rfl)) pva_nil)))) (by rfl)) (pvs_cons (pvs_ret pv_bl)
    pvs_nil) pvs_nil)
    pvs_nil)))
    (pvs_cons (pvs_asg (pv_tup (pvl_cons (pv_tup (pvl_cons (pv_str rfl) (pvl_cons (pv_str rfl) pvl_nil)) (by decide)) (pvl_cons (pv_tup (pvl_cons (pv_str rfl) (pvl_cons (pv_str rfl) pvl_nil)) (by decide)) (pvl_cons (pv_tup (pvl_cons (pv_str rfl) pvl_nil) (by decide)) (pvl_cons (pv_tup (pvl_cons (pv_str rfl) (pvl_cons pv_int (pvl_cons pv_int pvl_nil))) (by decide)) (pvl_cons (pv_tup (pvl_cons (pv_str rfl) (pvl_cons pv_int (pvl_cons pv_int pvl_nil))) (by decide)) (pvl_cons (pv_tup (pvl_cons (pv_str rfl) (pvl_cons pv_int (pvl_cons pv_int pvl_nil))) (by decide)) pvl_nil)))))) (by decide)) (pvg_name (i := 3) nd rfl (.inl rfl)))
    (pvs_cons (pvs_ret (pv_cmp (op := .eq) hu65 (pv_lst (pvl_cons (pv_fn T.f_turns hr hg (by rfl) (pva_lent (pv_var (i := 3) rfl (.inl rfl)) pva_nil)) (pvl_cons (pv_fn T.f_turns hr hg (by rfl) (pva_lent (pv_slice (pv_var (i := 3) rfl (.inl rfl)) pvo_none (pvo_some pv_int)) pva_nil)) (pvl_cons (pv_fn T.f_turns hr hg (by rfl) (pva_lent (pv_slice (pv_var (i := 3) rfl (.inl rfl)) pvo_none (pvo_some pv_int)) pva_nil)) pvl_nil))) (by decide)) (pv_lst (pvl_cons pv_int (pvl_cons pv_int (pvl_cons pv_int pvl_nil))) (by decide)) (by rfl)))
    pvs_nil))))))
end
def Pg : Prog where
  fn := fun x => List.lookup x [("numbers_in", d_numbers_in), ("needed_by", d_needed_by), ("needed", d_needed), ("members", d_members), ("turns", d_turns), ("_law_source", d__law_source), ("_law_pick", d__law_pick), ("_law_of", d__law_of), ("_law_mixed", d__law_mixed), ("_law_words", d__law_words), ("_law_members", d__law_members), ("_law_sheet", d__law_sheet), ("_law_put", d__law_put), ("_law_denied", d__law_denied), ("_law_mirrored", d__law_mirrored), ("_law_part", d__law_part), ("_law_tidy", d__law_tidy), ("_law_need", d__law_need), ("_law_turns", d__law_turns), ("_law_kept_sheet", d__law_kept_sheet), ("_law_some_sheet", d__law_some_sheet), ("_law_ladder", d__law_ladder), ("_law_tall", d__law_tall), ("law", d_law)]
  gl := fun x => List.lookup x [("LOOKS", .tup [.str [117, 110, 116, 105, 108], .str [115, 105, 110, 99, 101]])]
structure Fc (w : World) (K : PySem.W.Frag) (mg : Str → Option Value) : Prop where
  fd_numbers_in : ∃ fdt, FunD K "numbers_in" "numbers_in" (defArgs s_numbers_in) (defBody s_numbers_in) (defScope s_numbers_in) [] [] (He.ga K "numbers_in") fdt
  gm_numbers_in : mg "numbers_in" = some (.ref (He.ga K "numbers_in"))
  fd_needed_by : ∃ fdt, FunD K "needed_by" "needed_by" (defArgs s_needed_by) (defBody s_needed_by) (defScope s_needed_by) [] [] (He.ga K "needed_by") fdt
  gm_needed_by : mg "needed_by" = some (.ref (He.ga K "needed_by"))
  fd_needed : ∃ fdt, FunD K "needed" "needed" (defArgs s_needed) (defBody s_needed) (defScope s_needed) [] [] (He.ga K "needed") fdt
  gm_needed : mg "needed" = some (.ref (He.ga K "needed"))
  fd_members : ∃ fdt, FunD K "members" "members" (defArgs s_members) (defBody s_members) (defScope s_members) [] [] (He.ga K "members") fdt
  gm_members : mg "members" = some (.ref (He.ga K "members"))
  fd_turns : ∃ fdt, FunD K "turns" "turns" (defArgs s_turns) (defBody s_turns) (defScope s_turns) [] [] (He.ga K "turns") fdt
  gm_turns : mg "turns" = some (.ref (He.ga K "turns"))
  fd__law_source : ∃ fdt, FunD K "_law_source" "_law_source" (defArgs s__law_source) (defBody s__law_source) (defScope s__law_source) [] [] (He.ga K "_law_source") fdt
  gm__law_source : mg "_law_source" = some (.ref (He.ga K "_law_source"))
  fd__law_pick : ∃ fdt, FunD K "_law_pick" "_law_pick" (defArgs s__law_pick) (defBody s__law_pick) (defScope s__law_pick) [] [] (He.ga K "_law_pick") fdt
  gm__law_pick : mg "_law_pick" = some (.ref (He.ga K "_law_pick"))
  fd__law_of : ∃ fdt, FunD K "_law_of" "_law_of" (defArgs s__law_of) (defBody s__law_of) (defScope s__law_of) [] [] (He.ga K "_law_of") fdt
  gm__law_of : mg "_law_of" = some (.ref (He.ga K "_law_of"))
  fd__law_mixed : ∃ fdt, FunD K "_law_mixed" "_law_mixed" (defArgs s__law_mixed) (defBody s__law_mixed) (defScope s__law_mixed) [] [] (He.ga K "_law_mixed") fdt
  gm__law_mixed : mg "_law_mixed" = some (.ref (He.ga K "_law_mixed"))
  fd__law_words : ∃ fdt, FunD K "_law_words" "_law_words" (defArgs s__law_words) (defBody s__law_words) (defScope s__law_words) [] [] (He.ga K "_law_words") fdt
  gm__law_words : mg "_law_words" = some (.ref (He.ga K "_law_words"))
  fd__law_members : ∃ fdt, FunD K "_law_members" "_law_members" (defArgs s__law_members) (defBody s__law_members) (defScope s__law_members) [] [] (He.ga K "_law_members") fdt
  gm__law_members : mg "_law_members" = some (.ref (He.ga K "_law_members"))
  fd__law_sheet : ∃ fdt, FunD K "_law_sheet" "_law_sheet" (defArgs s__law_sheet) (defBody s__law_sheet) (defScope s__law_sheet) [] [] (He.ga K "_law_sheet") fdt
  gm__law_sheet : mg "_law_sheet" = some (.ref (He.ga K "_law_sheet"))
  fd__law_put : ∃ fdt, FunD K "_law_put" "_law_put" (defArgs s__law_put) (defBody s__law_put) (defScope s__law_put) [] [] (He.ga K "_law_put") fdt
  gm__law_put : mg "_law_put" = some (.ref (He.ga K "_law_put"))
  fd__law_denied : ∃ fdt, FunD K "_law_denied" "_law_denied" (defArgs s__law_denied) (defBody s__law_denied) (defScope s__law_denied) [] [] (He.ga K "_law_denied") fdt
  gm__law_denied : mg "_law_denied" = some (.ref (He.ga K "_law_denied"))
  fd__law_mirrored : ∃ fdt, FunD K "_law_mirrored" "_law_mirrored" (defArgs s__law_mirrored) (defBody s__law_mirrored) (defScope s__law_mirrored) [] [] (He.ga K "_law_mirrored") fdt
  gm__law_mirrored : mg "_law_mirrored" = some (.ref (He.ga K "_law_mirrored"))
  fd__law_part : ∃ fdt, FunD K "_law_part" "_law_part" (defArgs s__law_part) (defBody s__law_part) (defScope s__law_part) [] [] (He.ga K "_law_part") fdt
  gm__law_part : mg "_law_part" = some (.ref (He.ga K "_law_part"))
  fd__law_tidy : ∃ fdt, FunD K "_law_tidy" "_law_tidy" (defArgs s__law_tidy) (defBody s__law_tidy) (defScope s__law_tidy) [] [] (He.ga K "_law_tidy") fdt
  gm__law_tidy : mg "_law_tidy" = some (.ref (He.ga K "_law_tidy"))
  fd__law_need : ∃ fdt, FunD K "_law_need" "_law_need" (defArgs s__law_need) (defBody s__law_need) (defScope s__law_need) [] [] (He.ga K "_law_need") fdt
  gm__law_need : mg "_law_need" = some (.ref (He.ga K "_law_need"))
  fd__law_turns : ∃ fdt, FunD K "_law_turns" "_law_turns" (defArgs s__law_turns) (defBody s__law_turns) (defScope s__law_turns) [] [] (He.ga K "_law_turns") fdt
  gm__law_turns : mg "_law_turns" = some (.ref (He.ga K "_law_turns"))
  fd__law_kept_sheet : ∃ fdt, FunD K "_law_kept_sheet" "_law_kept_sheet" (defArgs s__law_kept_sheet) (defBody s__law_kept_sheet) (defScope s__law_kept_sheet) [] [] (He.ga K "_law_kept_sheet") fdt
  gm__law_kept_sheet : mg "_law_kept_sheet" = some (.ref (He.ga K "_law_kept_sheet"))
  fd__law_some_sheet : ∃ fdt, FunD K "_law_some_sheet" "_law_some_sheet" (defArgs s__law_some_sheet) (defBody s__law_some_sheet) (defScope s__law_some_sheet) [] [] (He.ga K "_law_some_sheet") fdt
  gm__law_some_sheet : mg "_law_some_sheet" = some (.ref (He.ga K "_law_some_sheet"))
  fd__law_ladder : ∃ fdt, FunD K "_law_ladder" "_law_ladder" (defArgs s__law_ladder) (defBody s__law_ladder) (defScope s__law_ladder) [] [] (He.ga K "_law_ladder") fdt
  gm__law_ladder : mg "_law_ladder" = some (.ref (He.ga K "_law_ladder"))
  fd__law_tall : ∃ fdt, FunD K "_law_tall" "_law_tall" (defArgs s__law_tall) (defBody s__law_tall) (defScope s__law_tall) [] [] (He.ga K "_law_tall") fdt
  gm__law_tall : mg "_law_tall" = some (.ref (He.ga K "_law_tall"))
  fd_law : ∃ fdt, FunD K "law" "law" (defArgs s_law) (defBody s_law) (defScope s_law) [] [] (He.ga K "law") fdt
  gm_law : mg "law" = some (.ref (He.ga K "law"))
  b_abs : mg "abs" = none
  b_int : mg "int" = none
  b_len : mg "len" = none
  b_list : mg "list" = none
  b_max : mg "max" = none
  b_min : mg "min" = none
  b_range : mg "range" = none
  b_repr : mg "repr" = none
  b_set : mg "set" = none
  b_sorted : mg "sorted" = none
  b_tuple : mg "tuple" = none
  k_LOOKS : mg "LOOKS" = some (.ref (He.ga K "LOOKS")) ∧ ∀ H : Hp, SqT K H (He.ga K "LOOKS") [V.str "until", V.str "since"]
theorem tbG {P : Program} {w : World} {K : PySem.W.Frag} {mg : Str → Option Value} {base : Heap} (X : Fc w K mg) : ∀ d : Nat, Tb P w K mg base (callN Pg d) Pg.gl d
  | 0 => {
      f_numbers_in := fn_zero X.gm_numbers_in (let ⟨_, F⟩ := X.fd_numbers_in; F.kp)
      f_needed_by := fn_zero X.gm_needed_by (let ⟨_, F⟩ := X.fd_needed_by; F.kp)
      f_needed := fn_zero X.gm_needed (let ⟨_, F⟩ := X.fd_needed; F.kp)
      f_members := fn_zero X.gm_members (let ⟨_, F⟩ := X.fd_members; F.kp)
      f_turns := fn_zero X.gm_turns (let ⟨_, F⟩ := X.fd_turns; F.kp)
      f__law_source := fn_zero X.gm__law_source (let ⟨_, F⟩ := X.fd__law_source; F.kp)
      f__law_pick := fn_zero X.gm__law_pick (let ⟨_, F⟩ := X.fd__law_pick; F.kp)
      f__law_of := fn_zero X.gm__law_of (let ⟨_, F⟩ := X.fd__law_of; F.kp)
      f__law_mixed := fn_zero X.gm__law_mixed (let ⟨_, F⟩ := X.fd__law_mixed; F.kp)
      f__law_words := fn_zero X.gm__law_words (let ⟨_, F⟩ := X.fd__law_words; F.kp)
      f__law_members := fn_zero X.gm__law_members (let ⟨_, F⟩ := X.fd__law_members; F.kp)
      f__law_sheet := fn_zero X.gm__law_sheet (let ⟨_, F⟩ := X.fd__law_sheet; F.kp)
      f__law_put := fn_zero X.gm__law_put (let ⟨_, F⟩ := X.fd__law_put; F.kp)
      f__law_denied := fn_zero X.gm__law_denied (let ⟨_, F⟩ := X.fd__law_denied; F.kp)
      f__law_mirrored := fn_zero X.gm__law_mirrored (let ⟨_, F⟩ := X.fd__law_mirrored; F.kp)
      f__law_part := fn_zero X.gm__law_part (let ⟨_, F⟩ := X.fd__law_part; F.kp)
      f__law_tidy := fn_zero X.gm__law_tidy (let ⟨_, F⟩ := X.fd__law_tidy; F.kp)
      f__law_need := fn_zero X.gm__law_need (let ⟨_, F⟩ := X.fd__law_need; F.kp)
      f__law_turns := fn_zero X.gm__law_turns (let ⟨_, F⟩ := X.fd__law_turns; F.kp)
      f__law_kept_sheet := fn_zero X.gm__law_kept_sheet (let ⟨_, F⟩ := X.fd__law_kept_sheet; F.kp)
      f__law_some_sheet := fn_zero X.gm__law_some_sheet (let ⟨_, F⟩ := X.fd__law_some_sheet; F.kp)
      f__law_ladder := fn_zero X.gm__law_ladder (let ⟨_, F⟩ := X.fd__law_ladder; F.kp)
      f__law_tall := fn_zero X.gm__law_tall (let ⟨_, F⟩ := X.fd__law_tall; F.kp)
      f_law := fn_zero X.gm_law (let ⟨_, F⟩ := X.fd_law; F.kp)
      b_abs := X.b_abs
      b_int := X.b_int
      b_len := X.b_len
      b_list := X.b_list
      b_max := X.b_max
      b_min := X.b_min
      b_range := X.b_range
      b_repr := X.b_repr
      b_set := X.b_set
      b_sorted := X.b_sorted
      b_tuple := X.b_tuple
      c_LOOKS := c_tup (l := [.str [117, 110, 116, 105, 108], .str [115, 105, 110, 99, 101]]) X.k_LOOKS.1 X.k_LOOKS.2 (fun p => ⟨_, _, rfl, rfl, ⟨_, _, rfl, rfl, rfl⟩⟩) (by rfl) (by decide)
    }
  | d + 1 => {
      f_numbers_in := (let ⟨_, F⟩ := X.fd_numbers_in; fn_mk X.gm_numbers_in F.kp (funD_G F sc_numbers_in rfl fun cd A ou s H hr hg => t_numbers_in (tbG X d) cd A ou s H hr hg) (F.bindsN fun _ _ _ _ _ _ us hl => match us, hl with | [_], _ => rfl) (by rfl) rfl rfl (by decide))
      f_needed_by := (let ⟨_, F⟩ := X.fd_needed_by; fn_mk X.gm_needed_by F.kp (funD_G F sc_needed_by rfl fun cd A ou s H hr hg => t_needed_by (tbG X d) cd A ou s H hr hg) (F.bindsN fun _ _ _ _ _ _ us hl => match us, hl with | [_, _], _ => rfl) (by rfl) rfl rfl (by decide))
      f_needed := (let ⟨_, F⟩ := X.fd_needed; fn_mk X.gm_needed F.kp (funD_G F sc_needed rfl fun cd A ou s H hr hg => t_needed (tbG X d) cd A ou s H hr hg) (F.bindsN fun _ _ _ _ _ _ us hl => match us, hl with | [_], _ => rfl) (by rfl) rfl rfl (by decide))
      f_members := (let ⟨_, F⟩ := X.fd_members; fn_mk X.gm_members F.kp (funD_G F sc_members rfl fun cd A ou s H hr hg => t_members (tbG X d) cd A ou s H hr hg) (F.bindsN fun _ _ _ _ _ _ us hl => match us, hl with | [_], _ => rfl) (by rfl) rfl rfl (by decide))
      f_turns := (let ⟨_, F⟩ := X.fd_turns; fn_mk X.gm_turns F.kp (funD_G F sc_turns rfl fun cd A ou s H hr hg => t_turns (tbG X d) cd A ou s H hr hg) (F.bindsN fun _ _ _ _ _ _ us hl => match us, hl with | [_], _ => rfl) (by rfl) rfl rfl (by decide))
      f__law_source := (let ⟨_, F⟩ := X.fd__law_source; fn_mk X.gm__law_source F.kp (funD_G F sc__law_source rfl fun cd A ou s H hr hg => t__law_source (tbG X d) cd A ou s H hr hg) (F.bindsN fun _ _ _ _ _ _ us hl => match us, hl with | [_], _ => rfl) (by rfl) rfl rfl (by decide))
      f__law_pick := (let ⟨_, F⟩ := X.fd__law_pick; fn_mk X.gm__law_pick F.kp (funD_G F sc__law_pick rfl fun cd A ou s H hr hg => t__law_pick (tbG X d) cd A ou s H hr hg) (F.bindsN fun _ _ _ _ _ _ us hl => match us, hl with | [_, _], _ => rfl) (by rfl) rfl rfl (by decide))
      f__law_of := (let ⟨_, F⟩ := X.fd__law_of; fn_mk X.gm__law_of F.kp (funD_G F sc__law_of rfl fun cd A ou s H hr hg => t__law_of (tbG X d) cd A ou s H hr hg) (F.bindsN fun _ _ _ _ _ _ us hl => match us, hl with | [_, _], _ => rfl) (by rfl) rfl rfl (by decide))
      f__law_mixed := (let ⟨_, F⟩ := X.fd__law_mixed; fn_mk X.gm__law_mixed F.kp (funD_G F sc__law_mixed rfl fun cd A ou s H hr hg => t__law_mixed (tbG X d) cd A ou s H hr hg) (F.bindsN fun _ _ _ _ _ _ us hl => match us, hl with | [_, _], _ => rfl) (by rfl) rfl rfl (by decide))
      f__law_words := (let ⟨_, F⟩ := X.fd__law_words; fn_mk X.gm__law_words F.kp (funD_G F sc__law_words rfl fun cd A ou s H hr hg => t__law_words (tbG X d) cd A ou s H hr hg) (F.bindsN fun _ _ _ _ _ _ us hl => match us, hl with | [_, _], _ => rfl) (by rfl) rfl rfl (by decide))
      f__law_members := (let ⟨_, F⟩ := X.fd__law_members; fn_mk X.gm__law_members F.kp (funD_G F sc__law_members rfl fun cd A ou s H hr hg => t__law_members (tbG X d) cd A ou s H hr hg) (F.bindsN fun _ _ _ _ _ _ us hl => match us, hl with | [_], _ => rfl) (by rfl) rfl rfl (by decide))
      f__law_sheet := (let ⟨_, F⟩ := X.fd__law_sheet; fn_mk X.gm__law_sheet F.kp (funD_G F sc__law_sheet rfl fun cd A ou s H hr hg => t__law_sheet (tbG X d) cd A ou s H hr hg) (F.bindsN fun _ _ _ _ _ _ us hl => match us, hl with | [_, _, _], _ => rfl) (by rfl) rfl rfl (by decide))
      f__law_put := (let ⟨_, F⟩ := X.fd__law_put; fn_mk X.gm__law_put F.kp (funD_G F sc__law_put rfl fun cd A ou s H hr hg => t__law_put (tbG X d) cd A ou s H hr hg) (F.bindsN fun _ _ _ _ _ _ us hl => match us, hl with | [_, _, _], _ => rfl) (by rfl) rfl rfl (by decide))
      f__law_denied := (let ⟨_, F⟩ := X.fd__law_denied; fn_mk X.gm__law_denied F.kp (funD_G F sc__law_denied rfl fun cd A ou s H hr hg => t__law_denied (tbG X d) cd A ou s H hr hg) (F.bindsN fun _ _ _ _ _ _ us hl => match us, hl with | [_], _ => rfl) (by rfl) rfl rfl (by decide))
      f__law_mirrored := (let ⟨_, F⟩ := X.fd__law_mirrored; fn_mk X.gm__law_mirrored F.kp (funD_G F sc__law_mirrored rfl fun cd A ou s H hr hg => t__law_mirrored (tbG X d) cd A ou s H hr hg) (F.bindsN fun _ _ _ _ _ _ us hl => match us, hl with | [_], _ => rfl) (by rfl) rfl rfl (by decide))
      f__law_part := (let ⟨_, F⟩ := X.fd__law_part; fn_mk X.gm__law_part F.kp (funD_G F sc__law_part rfl fun cd A ou s H hr hg => t__law_part (tbG X d) cd A ou s H hr hg) (F.bindsN fun _ _ _ _ _ _ us hl => match us, hl with | [_, _], _ => rfl) (by rfl) rfl rfl (by decide))
      f__law_tidy := (let ⟨_, F⟩ := X.fd__law_tidy; fn_mk X.gm__law_tidy F.kp (funD_G F sc__law_tidy rfl fun cd A ou s H hr hg => t__law_tidy (tbG X d) cd A ou s H hr hg) (F.bindsN fun _ _ _ _ _ _ us hl => match us, hl with | [_], _ => rfl) (by rfl) rfl rfl (by decide))
      f__law_need := (let ⟨_, F⟩ := X.fd__law_need; fn_mk X.gm__law_need F.kp (funD_G F sc__law_need rfl fun cd A ou s H hr hg => t__law_need (tbG X d) cd A ou s H hr hg) (F.bindsN fun _ _ _ _ _ _ us hl => match us, hl with | [_, _], _ => rfl) (by rfl) rfl rfl (by decide))
      f__law_turns := (let ⟨_, F⟩ := X.fd__law_turns; fn_mk X.gm__law_turns F.kp (funD_G F sc__law_turns rfl fun cd A ou s H hr hg => t__law_turns (tbG X d) cd A ou s H hr hg) (F.bindsN fun _ _ _ _ _ _ us hl => match us, hl with | [_], _ => rfl) (by rfl) rfl rfl (by decide))
      f__law_kept_sheet := (let ⟨_, F⟩ := X.fd__law_kept_sheet; fn_mk X.gm__law_kept_sheet F.kp (funD_G F sc__law_kept_sheet rfl fun cd A ou s H hr hg => t__law_kept_sheet (tbG X d) cd A ou s H hr hg) (F.bindsN fun _ _ _ _ _ _ us hl => match us, hl with | [_, _, _], _ => rfl) (by rfl) rfl rfl (by decide))
      f__law_some_sheet := (let ⟨_, F⟩ := X.fd__law_some_sheet; fn_mk X.gm__law_some_sheet F.kp (funD_G F sc__law_some_sheet rfl fun cd A ou s H hr hg => t__law_some_sheet (tbG X d) cd A ou s H hr hg) (F.bindsN fun _ _ _ _ _ _ us hl => match us, hl with | [_, _, _], _ => rfl) (by rfl) rfl rfl (by decide))
      f__law_ladder := (let ⟨_, F⟩ := X.fd__law_ladder; fn_mk X.gm__law_ladder F.kp (funD_G F sc__law_ladder rfl fun cd A ou s H hr hg => t__law_ladder (tbG X d) cd A ou s H hr hg) (F.bindsN fun _ _ _ _ _ _ us hl => match us, hl with | [_, _], _ => rfl) (by rfl) rfl rfl (by decide))
      f__law_tall := (let ⟨_, F⟩ := X.fd__law_tall; fn_mk X.gm__law_tall F.kp (funD_G F sc__law_tall rfl fun cd A ou s H hr hg => t__law_tall (tbG X d) cd A ou s H hr hg) (F.bindsN fun _ _ _ _ _ _ us hl => match us, hl with | [_, _], _ => rfl) (by rfl) rfl rfl (by decide))
      f_law := (let ⟨_, F⟩ := X.fd_law; fn_mk X.gm_law F.kp (funD_G F sc_law rfl fun cd A ou s H hr hg => t_law (tbG X d) cd A ou s H hr hg) (F.bindsN fun _ _ _ _ _ _ us hl => match us, hl with | [_], _ => rfl) (by rfl) rfl rfl (by decide))
      b_abs := X.b_abs
      b_int := X.b_int
      b_len := X.b_len
      b_list := X.b_list
      b_max := X.b_max
      b_min := X.b_min
      b_range := X.b_range
      b_repr := X.b_repr
      b_set := X.b_set
      b_sorted := X.b_sorted
      b_tuple := X.b_tuple
      c_LOOKS := c_tup (l := [.str [117, 110, 116, 105, 108], .str [115, 105, 110, 99, 101]]) X.k_LOOKS.1 X.k_LOOKS.2 (fun p => ⟨_, _, rfl, rfl, ⟨_, _, rfl, rfl, rfl⟩⟩) (by rfl) (by decide)
    }
def fns : List He.DefD := [⟨("numbers_in", none), "numbers_in", "numbers_in", defArgs s_numbers_in, defBody s_numbers_in, defScope s_numbers_in, [], []⟩, ⟨("needed_by", none), "needed_by", "needed_by", defArgs s_needed_by, defBody s_needed_by, defScope s_needed_by, [], []⟩, ⟨("needed", none), "needed", "needed", defArgs s_needed, defBody s_needed, defScope s_needed, [], []⟩, ⟨("members", none), "members", "members", defArgs s_members, defBody s_members, defScope s_members, [], []⟩, ⟨("turns", none), "turns", "turns", defArgs s_turns, defBody s_turns, defScope s_turns, [], []⟩, ⟨("_law_source", none), "_law_source", "_law_source", defArgs s__law_source, defBody s__law_source, defScope s__law_source, [], []⟩, ⟨("_law_pick", none), "_law_pick", "_law_pick", defArgs s__law_pick, defBody s__law_pick, defScope s__law_pick, [], []⟩, ⟨("_law_of", none), "_law_of", "_law_of", defArgs s__law_of, defBody s__law_of, defScope s__law_of, [], []⟩, ⟨("_law_mixed", none), "_law_mixed", "_law_mixed", defArgs s__law_mixed, defBody s__law_mixed, defScope s__law_mixed, [], []⟩, ⟨("_law_words", none), "_law_words", "_law_words", defArgs s__law_words, defBody s__law_words, defScope s__law_words, [], []⟩, ⟨("_law_members", none), "_law_members", "_law_members", defArgs s__law_members, defBody s__law_members, defScope s__law_members, [], []⟩, ⟨("_law_sheet", none), "_law_sheet", "_law_sheet", defArgs s__law_sheet, defBody s__law_sheet, defScope s__law_sheet, [], []⟩, ⟨("_law_put", none), "_law_put", "_law_put", defArgs s__law_put, defBody s__law_put, defScope s__law_put, [], []⟩, ⟨("_law_denied", none), "_law_denied", "_law_denied", defArgs s__law_denied, defBody s__law_denied, defScope s__law_denied, [], []⟩, ⟨("_law_mirrored", none), "_law_mirrored", "_law_mirrored", defArgs s__law_mirrored, defBody s__law_mirrored, defScope s__law_mirrored, [], []⟩, ⟨("_law_part", none), "_law_part", "_law_part", defArgs s__law_part, defBody s__law_part, defScope s__law_part, [], []⟩, ⟨("_law_tidy", none), "_law_tidy", "_law_tidy", defArgs s__law_tidy, defBody s__law_tidy, defScope s__law_tidy, [], []⟩, ⟨("_law_need", none), "_law_need", "_law_need", defArgs s__law_need, defBody s__law_need, defScope s__law_need, [], []⟩, ⟨("_law_turns", none), "_law_turns", "_law_turns", defArgs s__law_turns, defBody s__law_turns, defScope s__law_turns, [], []⟩, ⟨("_law_kept_sheet", none), "_law_kept_sheet", "_law_kept_sheet", defArgs s__law_kept_sheet, defBody s__law_kept_sheet, defScope s__law_kept_sheet, [], []⟩, ⟨("_law_some_sheet", none), "_law_some_sheet", "_law_some_sheet", defArgs s__law_some_sheet, defBody s__law_some_sheet, defScope s__law_some_sheet, [], []⟩, ⟨("_law_ladder", none), "_law_ladder", "_law_ladder", defArgs s__law_ladder, defBody s__law_ladder, defScope s__law_ladder, [], []⟩, ⟨("_law_tall", none), "_law_tall", "_law_tall", defArgs s__law_tall, defBody s__law_tall, defScope s__law_tall, [], []⟩, ⟨("law", none), "law", "law", defArgs s_law, defBody s_law, defScope s_law, [], []⟩]
def fas : List He.Fa := [.glo "numbers_in", .glo "needed_by", .glo "needed", .glo "members", .glo "turns", .glo "_law_source", .glo "_law_pick", .glo "_law_of", .glo "_law_mixed", .glo "_law_words", .glo "_law_members", .glo "_law_sheet", .glo "_law_put", .glo "_law_denied", .glo "_law_mirrored", .glo "_law_part", .glo "_law_tidy", .glo "_law_need", .glo "_law_turns", .glo "_law_kept_sheet", .glo "_law_some_sheet", .glo "_law_ladder", .glo "_law_tall", .glo "law", .free "abs", .free "int", .free "len", .free "list", .free "max", .free "min", .free "range", .free "repr", .free "set", .free "sorted", .free "tuple", .glo "LOOKS"]
def exs (K : PySem.W.Frag) : Bool := (noLists K && He.tupB K "LOOKS" [.str "until", .str "since"])
def loose : List Str := "numbers_in" :: "needed_by" :: "needed" :: "LOOKS" :: "members" :: "turns" :: "_law_source" :: "_law_pick" :: "_law_of" :: "_law_mixed" :: "_law_words" :: "_law_members" :: "_law_sheet" :: "_law_put" :: "_law_denied" :: "_law_mirrored" :: "_law_part" :: "_law_tidy" :: "_law_need" :: "_law_turns" :: "_law_kept_sheet" :: "_law_some_sheet" :: "_law_ladder" :: "_law_tall" :: []
abbrev R : PySem.W.OpenRow := PySem.W.OpenLaw.row PySem.Challenge.rw_splitsays_k28_turns
def tbs : List He.Tab := []
abbrev hk : PySem.W.Hook := He.hookX 4 fas fns tbs [] exs
def ob (s : PySem.W.SharedT) : He.AlX := He.obsX 4 fas fns tbs [] exs (HandSHeadRun.getT s)
theorem ob_eq (s : PySem.W.SharedT) : ob s = hk.obs s.abs := He.obsX_eq (HandSHeadRun.getT_eq s)
theorem run (w : World) : HandSHeadRun.RunEq R (PySem.W.view R.prog [27]) hk ob 4000 loose w := by
  intro os
  kernel_rfl
theorem fc {K : PySem.W.Frag} {h : Heap} {mg : Str → Option Value} {w : World} (X : K.In h) (G : h.Ns mainGlobals mg) (c : He.SaysX fas fns tbs [] exs w h K) : Fc w K mg := {
  fd_numbers_in := c.t.d.def_ 0 (by rfl)
  gm_numbers_in := He.glo_ok X G (c.t.d.fact 0 (by rfl))
  fd_needed_by := c.t.d.def_ 1 (by rfl)
  gm_needed_by := He.glo_ok X G (c.t.d.fact 1 (by rfl))
  fd_needed := c.t.d.def_ 2 (by rfl)
  gm_needed := He.glo_ok X G (c.t.d.fact 2 (by rfl))
  fd_members := c.t.d.def_ 3 (by rfl)
  gm_members := He.glo_ok X G (c.t.d.fact 3 (by rfl))
  fd_turns := c.t.d.def_ 4 (by rfl)
  gm_turns := He.glo_ok X G (c.t.d.fact 4 (by rfl))
  fd__law_source := c.t.d.def_ 5 (by rfl)
  gm__law_source := He.glo_ok X G (c.t.d.fact 5 (by rfl))
  fd__law_pick := c.t.d.def_ 6 (by rfl)
  gm__law_pick := He.glo_ok X G (c.t.d.fact 6 (by rfl))
  fd__law_of := c.t.d.def_ 7 (by rfl)
  gm__law_of := He.glo_ok X G (c.t.d.fact 7 (by rfl))
  fd__law_mixed := c.t.d.def_ 8 (by rfl)
  gm__law_mixed := He.glo_ok X G (c.t.d.fact 8 (by rfl))
  fd__law_words := c.t.d.def_ 9 (by rfl)
  gm__law_words := He.glo_ok X G (c.t.d.fact 9 (by rfl))
  fd__law_members := c.t.d.def_ 10 (by rfl)
  gm__law_members := He.glo_ok X G (c.t.d.fact 10 (by rfl))
  fd__law_sheet := c.t.d.def_ 11 (by rfl)
  gm__law_sheet := He.glo_ok X G (c.t.d.fact 11 (by rfl))
  fd__law_put := c.t.d.def_ 12 (by rfl)
  gm__law_put := He.glo_ok X G (c.t.d.fact 12 (by rfl))
  fd__law_denied := c.t.d.def_ 13 (by rfl)
  gm__law_denied := He.glo_ok X G (c.t.d.fact 13 (by rfl))
  fd__law_mirrored := c.t.d.def_ 14 (by rfl)
  gm__law_mirrored := He.glo_ok X G (c.t.d.fact 14 (by rfl))
  fd__law_part := c.t.d.def_ 15 (by rfl)
  gm__law_part := He.glo_ok X G (c.t.d.fact 15 (by rfl))
  fd__law_tidy := c.t.d.def_ 16 (by rfl)
  gm__law_tidy := He.glo_ok X G (c.t.d.fact 16 (by rfl))
  fd__law_need := c.t.d.def_ 17 (by rfl)
  gm__law_need := He.glo_ok X G (c.t.d.fact 17 (by rfl))
  fd__law_turns := c.t.d.def_ 18 (by rfl)
  gm__law_turns := He.glo_ok X G (c.t.d.fact 18 (by rfl))
  fd__law_kept_sheet := c.t.d.def_ 19 (by rfl)
  gm__law_kept_sheet := He.glo_ok X G (c.t.d.fact 19 (by rfl))
  fd__law_some_sheet := c.t.d.def_ 20 (by rfl)
  gm__law_some_sheet := He.glo_ok X G (c.t.d.fact 20 (by rfl))
  fd__law_ladder := c.t.d.def_ 21 (by rfl)
  gm__law_ladder := He.glo_ok X G (c.t.d.fact 21 (by rfl))
  fd__law_tall := c.t.d.def_ 22 (by rfl)
  gm__law_tall := He.glo_ok X G (c.t.d.fact 22 (by rfl))
  fd_law := c.t.d.def_ 23 (by rfl)
  gm_law := He.glo_ok X G (c.t.d.fact 23 (by rfl))
  b_abs := He.free_ok X G (c.t.d.fact 24 (by rfl))
  b_int := He.free_ok X G (c.t.d.fact 25 (by rfl))
  b_len := He.free_ok X G (c.t.d.fact 26 (by rfl))
  b_list := He.free_ok X G (c.t.d.fact 27 (by rfl))
  b_max := He.free_ok X G (c.t.d.fact 28 (by rfl))
  b_min := He.free_ok X G (c.t.d.fact 29 (by rfl))
  b_range := He.free_ok X G (c.t.d.fact 30 (by rfl))
  b_repr := He.free_ok X G (c.t.d.fact 31 (by rfl))
  b_set := He.free_ok X G (c.t.d.fact 32 (by rfl))
  b_sorted := He.free_ok X G (c.t.d.fact 33 (by rfl))
  b_tuple := He.free_ok X G (c.t.d.fact 34 (by rfl))
  k_LOOKS := ⟨He.glo_ok X G (c.t.d.fact 35 (by rfl)), fun H => He.tupB_ok (He.ba c.more).2 H⟩
}
end Law
section
open PySem PySem.W PySem.Calls PyProof.Rows
theorem Law.holds (ok : ∀ ns : List Int, ns.length ≤ 63 → Pv.okW (Pv.callN Law.Pg 60) Law.Pg.gl Law.d_law ns) : PySem.Challenge.rw_splitsays_k28_turns.Holds := by
  w_on; o_law
  refine HandSHeadRun.head_any (r := OpenLaw.row PySem.Challenge.rw_splitsays_k28_turns) (q := view (OpenLaw.row PySem.Challenge.rw_splitsays_k28_turns).prog [27]) (H := Law.hk) (ob := Law.ob) (M := 4000) (loose := Law.loose) (d := HandSHeadRun.topDef (OpenLaw.row PySem.Challenge.rw_splitsays_k28_turns).prog 27) (kwd := []) Law.ob_eq
    (by kernel_rfl) (fun s => by kernel_rfl) Law.run (by kernel_rfl) (by kernel_rfl) (by kernel_rfl) (by rfl) (by first | assumption | decide +kernel) (by decide +kernel) ⟨rfl, rfl, rfl, rfl, rfl, by decide +kernel⟩ ?hw ?hc
  case hw => w_witness2
  case hc =>
    refine Pv.walk_G (l := PySem.Challenge.rw_splitsays_k28_turns) (n := 63) (k := 61) (x := "script") rfl (by decide) (by kernel_rfl) ⟨rfl, by decide, by decide⟩ ?F
    intro w mg fa h Y G hmg0
    obtain ⟨K, KX, c⟩ := Y
    have hmg : mg ("law" : PySem.Str) = some (.ref fa) := by
      have e : (HandSHeadRun.topDef (OpenLaw.row PySem.Challenge.rw_splitsays_k28_turns).prog 27).name = ("law" : PySem.Str) := by kernel_rfl
      rw [← e]
      exact hmg0
    have X := Law.fc KX G c
    obtain ⟨fdt, F⟩ := X.fd_law
    have e := hmg.symm.trans X.gm_law
    cases e
    exact ⟨K, fdt, Law.n_law, Pv.callN Law.Pg 60, Law.Pg.gl, Law.d_law, KX, Pv.noLists_ok (He.ba c.more).1, fun s u => L2.FunD.bindsA (ps := ["script"]) F (fun _ _ _ _ _ _ us hl => match us, hl with | [_], _ => rfl) s [u] rfl,
      fun base hb hns => Pv.funD_G F Law.sc_law rfl fun cd A ou s H hr hg => Law.t_law (Law.tbG X 60) cd A ou s H hr hg, rfl, rfl, by decide, ok⟩
end

set_option autoImplicit false
set_option linter.all false
set_option maxRecDepth 10000
namespace Law
open Pv
local macro_rules | `(tactic| get_elem_tactic_trivial) => `(tactic| simp (maxSteps := 2000000) only [wpE_lit, wpE_var, wpE_glob, wpE_tup, wpE_lst, wpE_dnew, wpE_dict, wpE_lrange, wpE_lrange2, wpE_denum2, wpE_sset, wpE_ssetS, wpE_state, wpE_neg, wpE_bin, wpE_cmp, wpE_chain, wpE_and, wpE_or, wpE_not, wpE_ite, wpE_idx, wpE_slice, wpE_rev, wpE_stepS, wpE_call, wpE_blt, wpE_dget, wpE_dget2, wpE_mut, wpE_mutF, wpE_comp, wpE_dict1, wpE_dcomp, wpE_dvals, wpE_indexOf, wpE_tupS, wpE_lstS, wpE_isInst, wpE_gget, wpE_gget2, wpE_gidx, wpE_gmem, wpE_gcd, wpLS_nil, wpLS_star, wpLS_one, wpI_rngD, wpI_rngL, wpI_zip, wpI_items, wpI_keys, bin_bor, bin_band, bin_shl, bin_shr, blt_sum, blt_all, blt_any, blt_maxL, blt_minL, blt_minP,
  wpL_nil, wpL_cons, wpF_nil, wpF_cons, wpA_nil, wpA_lent, wpA_fz, wpB_one, wpB_cons, wpO_none, wpO_some, wpC_nil, wpC_cons, wpI_seq, wpI_rng, wpI_rng2, wpI_enum, wpP_nil, wpP_cons, wpSs_nil, wpSs_cons, wpS_expr, wpS_assign, wpS_par, wpS_setIdx, wpS_aug, wpS_retN, wpS_ret, wpS_ite, wpS_for, wpS_while, wpS_brk, wpS_cont, wpS_pass,
  giveT_var, giveT_tup, giveL_nil, giveL_cons, give_fz, give_fresh, give_bor, esc_fz, esc_fresh, esc_bor, escI_fz, escI_fresh, escI_bor, kept_fz, kept_fresh, kept_bor, retK_fz, retK_fresh, retK_bor,
  List.getElem?_cons_zero, List.getElem?_cons_succ, List.getElem?_nil, List.set_cons_zero, List.set_cons_succ, List.foldl_cons, List.foldl_nil, List.zip_cons_cons, List.zip_nil_left, List.zip_nil_right, List.zipWith_cons_cons, List.zipWith_nil_left, List.zipWith_nil_right, List.length_cons, List.length_nil, List.replicate, List.cons_append, List.nil_append, List.set_nil, wipeE, back, back,
  Option.some.injEq, Prod.mk.injEq, exists_and_left, exists_eq_left', exists_eq_right', exists_eq', and_true, true_and, and_assoc, if_true, if_false, ↓reduceIte, reduceCtorEq, false_and, and_false, exists_false, or_false, false_or, D.int.injEq, D.str.injEq, D.tup.injEq, D.lst.injEq, D.dic.injEq, D.ref.injEq, D.bl.injEq, List.cons.injEq,
  getF, setF, List.find?_cons, List.find?_nil, Option.map_some, Option.map_none, tru_bl, tru_int, tru_non, tru_tup, tru_lst, tru_str, bin_add_int, bin_sub_int, bin_mul_int, bin_fdiv_int, bin_mod_int, bin_pow_int, bin_add_str, bin_add_lst, bin_add_tup, bin_mul_lst, bin_mul_tup, cmp_lt_int, cmp_le_int, cmp_gt_int, cmp_ge_int, cmp_lt_str, cmp_le_str, cmp_gt_str, cmp_ge_str, cmp_eq_rep, cmp_ne_rep, cmp_eq_int, cmp_eq_str, cmp_eq_tup, cmp_eq_lst, cmp_eq_bl, cmp_ne_int, cmp_ne_str, cmp_ne_tup, cmp_ne_lst, cmp_ne_bl, cmp_mem, cmp_notMem, mem_tup, mem_lst, mem_dic, idx_tup, idx_lst, idx_str, idx_dic_int, idx_dic_str, idx_ref, isKey_int, isKey_str, blt_len_tup, blt_len_lst, blt_len_dic, blt_len_str, blt_abs, blt_int, blt_int_bl, blt_max, blt_min, blt_list_lst, blt_list_tup, blt_tuple_lst, blt_tuple_tup, blt_repr, blt_sorted, kind_int, kind_str, kind_bl, kind_tup, kind_rep, kind_non, kind_lst, kind_dic, optI_none, optI_some, slice_tup, slice_lst, slice_str, rev_lst, rev_tup, items_tup, items_lst, mut_append, mut_pop, mut_popAt, mut_extend, set_lst, set_dic, Nat.reduceSub, Nat.reduceAdd, nil_beq, eq_self, Nat.reduceBEq, List.cons_beq_cons, List.isEmpty_cons, List.isEmpty_nil, Bool.and_true, Bool.and_false, Bool.true_and, Bool.false_and, Bool.not_true, Bool.not_false, Bool.false_eq_true, List.map_cons, List.map_nil, decide_eq_true_eq, Nat.reduceEqDiff])
abbrev srcO (cs : List Int) (L M T : Int) : Obj := ⟨"dict", [([99, 101, 108, 108, 115], 1, .lst (cs.map .int)), ([108, 101, 102, 116], 0, .int L), ([109, 105, 120, 101, 100], 0, .int M), ([116, 117, 114, 110], 0, .int T)]⟩
def Src (μ : Store) : Prop := ∃ (cs : List Int) (L M T : Int), μ = [srcO cs L M T] ∧ (∀ c ∈ cs, 0 ≤ c) ∧ 0 ≤ L ∧ 0 ≤ M ∧ M < 2147483647 ∧ 0 ≤ T
def cellsOf (μ : Store) : Nat := match μ with | [⟨_, (_, _, .lst l) :: _⟩] => l.length | _ => 0
theorem fmod_in {a b : Int} (h : 0 < b) : 0 ≤ a.fmod b ∧ a.fmod b < b := ⟨Int.fmod_nonneg_of_pos a h, Int.fmod_lt_of_pos a h⟩
theorem big_4 : 4 < big := by decide
theorem pick_ok {d : Nat} {many : Int} {μ : Store} {Q : Nat → D → Store → Prop} {X : D → Store → Prop} (h : Src μ) (hm : many < 1073741824) (post : ∀ r μ', Src μ' → 0 ≤ r → r < max 1 many → Q 0 (.int r) μ') :
    callN Pg (d + 1) "_law_pick" [.ref 0, .int many] μ Q X := by
  rw [callN_succ]
  refine ⟨d__law_pick, rfl, rfl, ?_⟩
  show wpSs _ _ b__law_pick _ [some (0, .ref 0), some (2, .int many), none, none] _
  unfold b__law_pick
  rw [wpSs_cons, wpS_while]
  refine while_post (fun env μ => env = [some (0, .ref 0), some (2, .int many), none, none] ∧ Src μ) (fun env μ => env = [some (0, .ref 0), some (2, .int many), none, none] ∧ Src μ) (fun _ μ => cellsOf μ) ?_ ?_ _ μ ⟨rfl, h⟩
  · rintro env μ K' Nx ⟨rfl, cs, L, M, T, rfl, hc, hL, hM, hM2, hT⟩ hk hn
    have stop : K' [some (0, .ref 0), some (2, .int many), none, none] [srcO cs L M T] := hk _ _ ⟨rfl, cs, L, M, T, rfl, hc, hL, hM, hM2, hT⟩
    get_elem_tactic_trivial
    split
    · split
      · split
        · rename_i h3
          have hne : cs ≠ [] := by rintro rfl; simp at h3
          refine ⟨.int (cs.getLast hne), ?_, by decide, hn _ _ ⟨rfl, cs.dropLast, _, M, T, by simp only [srcO, List.map_dropLast], fun c hc' => hc c (List.dropLast_subset cs hc'), hc _ (List.getLast_mem hne), hM, hM2, hT⟩ ?_⟩
          · rw [List.getElem?_map, List.length_map, ← List.getLast?_eq_getElem?, List.getLast?_eq_getLast hne]; rfl
          · have : 0 < cs.length := List.length_pos_iff.mpr hne
            simp [cellsOf]
            omega
        · exact stop
      · exact stop
    · exact stop
  · rintro env μ ⟨rfl, cs, L, M, T, rfl, hc, hL, hM, hM2, hT⟩
    have hmx : (if many > 1 then many else 1) = max 1 many := by omega
    have one : (if many > 1 then many else 1) ≠ 0 ∧ (if many > 1 then many else 1).natAbs < 1073741824 ∧ 4 < big ∧ (if many > 1 then many else 1) ≠ 0 ∧ Q 0 (D.int (L.fmod (if many > 1 then many else 1))) [srcO cs (L.fdiv (if many > 1 then many else 1)) M T] := by
      rw [hmx]
      have hp : 0 < max 1 many := by omega
      refine ⟨by omega, by omega, big_4, by omega, post _ _ ⟨cs, _, M, T, rfl, hc, Int.fdiv_nonneg hL (by omega), hM, hM2, hT⟩ (fmod_in hp).1 (fmod_in hp).2⟩
    have two : 1 < many → 4 < big ∧ (small (T + 1) ∨ small 104729) ∧ (998244353 : Int) ≠ 0 ∧ (small ((M + (T + 1) * 104729).fmod 998244353) ∨ small ((M + (T + 1) * 104729).fmod 998244353)) ∧ (small (T + 1) ∨ small 17) ∧ (2147483647 : Int) ≠ 0 ∧ 4 < big ∧ (16 : Int) ≠ 0 ∧ Int.natAbs 16 < 1073741824 ∧ many ≠ 0 ∧
        Q 0 (D.int (((((M + (T + 1) * 104729).fmod 998244353 * (M + (T + 1) * 104729).fmod 998244353 + (T + 1) * 17).fmod 2147483647).fdiv 16).fmod many))
          [srcO cs L (((M + (T + 1) * 104729).fmod 998244353 * (M + (T + 1) * 104729).fmod 998244353 + (T + 1) * 17).fmod 2147483647) (T + 1)] := fun hmany => by
      have f1 := fmod_in (a := M + (T + 1) * 104729) (b := 998244353) (by decide)
      have f2 := fmod_in (a := (M + (T + 1) * 104729).fmod 998244353 * (M + (T + 1) * 104729).fmod 998244353 + (T + 1) * 17) (b := 2147483647) (by decide)
      have f3 := fmod_in (a := ((((M + (T + 1) * 104729).fmod 998244353 * (M + (T + 1) * 104729).fmod 998244353 + (T + 1) * 17).fmod 2147483647).fdiv 16)) (b := many) (by omega)
      refine ⟨big_4, .inr (by unfold small; decide), by decide, .inl (by unfold small; omega), .inr (by unfold small; decide), by decide, big_4, by decide, by decide, by omega, post _ _ ⟨cs, L, _, T + 1, rfl, hc, hL, f2.1, f2.2, by omega⟩ f3.1 (by omega)⟩
    get_elem_tactic_trivial
    by_cases h1 : many < 2
    · rw [if_pos h1, if_pos h1]; exact one
    · rw [if_neg h1]
      by_cases h2 : 1 < L
      · rw [if_pos h2]; exact one
      · rw [if_neg h2]; exact two (by omega)
section
variable {d : Nat} {μ : Store} {Q : Nat → D → Store → Prop} {X : D → Store → Prop} {i k p m : Nat}
theorem atI_nat {α : Type} {xs : List α} {j : Nat} {x : α} (h : xs[j]? = some x) : atI xs (j : Int) = some x := by
  have hj := (List.getElem?_eq_some_iff.mp h).1
  unfold atI ixN
  rw [if_pos (by omega), if_pos (by omega)]
  simpa using h
abbrev lI (l : List Int) : D := .lst (l.map .int)
theorem intsOf_map (l : List Int) : intsOf (l.map D.int) = some l := by
  induction l with
  | nil => rfl
  | cons x r ih => show (intsOf (r.map D.int)).map (x :: ·) = _; rw [ih]; rfl
theorem source_ok {ns : List Int} (post : ∀ μ', Src μ' → Q 0 (.ref 0) μ') (hn : ns.length ≤ 63) : callN Pg (d + 1) "_law_source" [lI ns] [] Q X := by
  rw [callN_succ]
  refine ⟨d__law_source, rfl, rfl, ?_⟩
  show wpSs _ _ b__law_source _ [some (2, lI ns), none, none] _
  unfold b__law_source
  get_elem_tactic_trivial
  refine for_ok (fun pre tl env ν => ν = [] ∧ ∃ M : Int, 0 ≤ M ∧ M < 2147483629 ∧ (∃ r : List Int, tl = r.map .int) ∧ env = [some (2, lI ns), some (0, .int M), none]) ⟨rfl, 11, by decide, by decide, ⟨ns, rfl⟩, rfl⟩ ?_ ?_
  · rintro pre x tl env ν K' ⟨rfl, M, hM, hM2, ⟨r, hr⟩, rfl⟩ hk
    cases r with
    | nil => cases hr
    | cons c r =>
      obtain ⟨rfl, rfl⟩ : x = .int c ∧ tl = r.map .int := List.cons.inj hr
      get_elem_tactic_trivial
      have f := fmod_in (a := M * 69069 + c * 31 + 5) (b := 2147483629) (by decide)
      exact ⟨.inl (by unfold small; omega), .inr (by unfold small; decide), by decide, hk _ _ ⟨rfl, _, f.1, f.2, ⟨r, rfl⟩, rfl⟩⟩
  · rintro pre env ν ⟨rfl, M, hM, hM2, ⟨r, hr⟩, rfl⟩
    get_elem_tactic_trivial
    refine ⟨rfl, ?_⟩
    refine comp_ok (fun pre tl acc env ν => ν = [] ∧ (∃ r : List Int, tl = r.map .int) ∧ (∃ cs : List Int, acc = cs.map .int ∧ (∀ c ∈ cs, 0 ≤ c) ∧ cs.length + tl.length ≤ 63) ∧ env = [some (2, lI ns), some (0, .int M), none]) ⟨rfl, ⟨ns, rfl⟩, ⟨[], rfl, by simp, by simpa using hn⟩, rfl⟩ ?_ ?_ ?_
    · rintro pre x tl acc env ν K' ⟨rfl, ⟨r, hr⟩, ⟨cs, rfl, hc, hl⟩, rfl⟩ _ hk
      cases r with
      | nil => cases hr
      | cons c r =>
        obtain ⟨rfl, rfl⟩ : x = .int c ∧ tl = r.map .int := List.cons.inj hr
        get_elem_tactic_trivial
        refine hk _ _ _ ⟨rfl, ⟨r, rfl⟩, ⟨cs ++ [if c < 0 then -c else c], by simp, fun y hy => ?_, by simp at hl ⊢; omega⟩, rfl⟩
        rcases List.mem_append.mp hy with hy | hy
        · exact hc y hy
        · rw [List.mem_singleton] at hy; subst hy; split <;> omega
    · rintro pre x tl acc env ν ⟨rfl, _, ⟨cs, rfl, _, hl⟩, rfl⟩
      simp at hl ⊢
      unfold big; omega
    · rintro pre acc env ν ⟨rfl, _, ⟨cs, rfl, hc, hl⟩, rfl⟩
      refine ⟨0, .int M, rfl, ?_⟩
      refine post _ ⟨cs.reverse, 1, M, 0, by rw [srcO, List.map_reverse]; rfl, fun c h => hc c (List.mem_reverse.mp h), by decide, hM, by omega, by decide⟩
theorem of_ok {xs : List D} (h : Src μ) (hx : xs ≠ []) (hl : xs.length < 1000000) (post : ∀ x ∈ xs, ∀ μ', Src μ' → Q 0 x μ') : callN Pg (d + 2) "_law_of" [.ref 0, .lst xs] μ Q X := by
  rw [callN_succ]
  refine ⟨d__law_of, rfl, rfl, ?_⟩
  show wpSs _ _ b__law_of _ [some (0, .ref 0), some (2, .lst xs)] _
  unfold b__law_of
  get_elem_tactic_trivial
  refine pick_ok h (by omega) fun r μ' hs h0 h1 => ?_
  have hp : 0 < xs.length := List.length_pos_iff.mpr hx
  have hr : r.toNat < xs.length := by omega
  have e : r = (r.toNat : Int) := by omega
  rw [e]
  exact ⟨_, atI_nat (List.getElem?_eq_getElem hr), post _ (List.getElem_mem hr) _ hs⟩
theorem perm_erase {α : Type} : ∀ (l : List α) (n : Nat) (x : α), l[n]? = some x → (x :: l.eraseIdx n).Perm l
  | [], n, x, h => by simp at h
  | y :: r, 0, x, h => by simp at h; subst h; exact .refl _
  | y :: r, n + 1, x, h => by
    have := perm_erase r n x (by simpa using h)
    rw [List.eraseIdx_cons_succ]
    exact (List.Perm.swap y x _).trans (this.cons y)
theorem mixed_ok {xs : List D} (h : Src μ) (hl : xs.length < 1000000) (post : ∀ acc μ', acc.Perm xs → Src μ' → Q 1 (.lst acc) μ') : callN Pg (d + 2) "_law_mixed" [.ref 0, .lst xs] μ Q X := by
  rw [callN_succ]
  refine ⟨d__law_mixed, rfl, rfl, ?_⟩
  show wpSs _ _ b__law_mixed _ [some (0, .ref 0), some (2, .lst xs), none, none] _
  unfold b__law_mixed
  get_elem_tactic_trivial
  refine ⟨by omega, by omega, rfl, ?_⟩
  refine comp_ok (fun pre tl acc env ν => Src ν ∧ ∃ rest : List D, (acc ++ rest).Perm xs ∧ rest.length = tl.length ∧ env = [some (0, .ref 0), some (2, .lst xs), some (1, .lst rest), none]) ⟨h, xs, .refl _, by simp [rangeL], rfl⟩ ?_ ?_ ?_
  · rintro pre x tl acc env ν K' ⟨hs, rest, hp, hr, rfl⟩ _ hk
    get_elem_tactic_trivial
    have hlen := hp.length_eq
    rw [List.length_append] at hlen
    refine pick_ok hs (by omega) fun r μ' hs' h0 h1 => ?_
    rw [List.length_cons] at hr
    have hr2 : r.toNat < rest.length := by omega
    refine ⟨rest, rfl, ?_⟩
    rw [mut_popAt]
    refine ⟨r.toNat, rest[r.toNat], ?_, List.getElem?_eq_getElem hr2, ⟨by omega, by omega⟩, hk _ _ _ ⟨hs', rest.eraseIdx r.toNat, ?_, ?_, rfl⟩⟩
    · unfold ixN
      rw [if_pos h0, if_pos (by omega)]
    · have := perm_erase rest r.toNat _ (List.getElem?_eq_getElem hr2)
      refine List.Perm.trans ?_ hp
      rw [List.append_assoc]
      exact List.Perm.append_left _ this
    · rw [List.length_eraseIdx_of_lt hr2]; omega
  · rintro pre x tl acc env ν ⟨hs, rest, hp, hr, rfl⟩
    have hlen := hp.length_eq
    rw [List.length_append] at hlen
    unfold big; omega
  · rintro pre acc env ν ⟨hs, rest, hp, hr, rfl⟩
    have : rest = [] := List.length_eq_zero_iff.mp (by simpa using hr)
    subst this
    rw [List.append_nil] at hp
    exact post _ _ hp hs
abbrev lS (ws : List (List Nat)) : D := .lst (ws.map .str)
theorem strsOf_map (l : List (List Nat)) : strsOf (l.map D.str) = some l := by
  induction l with
  | nil => rfl
  | cons x r ih => show (strsOf (r.map D.str)).map (x :: ·) = _; rw [ih]; rfl
theorem perm_map_str {acc : List D} {l : List (List Nat)} (h : acc.Perm (l.map D.str)) : ∃ l' : List (List Nat), acc = l'.map D.str ∧ l'.Perm l := by
  have : ∀ x ∈ acc, ∃ s, x = D.str s := fun x hx => by
    obtain ⟨s, _, rfl⟩ := List.mem_map.mp (h.mem_iff.mp hx)
    exact ⟨s, rfl⟩
  have e : ∀ acc : List D, (∀ x ∈ acc, ∃ s, x = D.str s) → acc = (acc.map fun x => match x with | .str s => s | _ => []).map D.str := by
    intro acc
    induction acc with
    | nil => intro _; rfl
    | cons x r ih =>
      intro h
      obtain ⟨s, rfl⟩ := h x List.mem_cons_self
      rw [List.map_cons, List.map_cons, ← ih fun y hy => h y (List.mem_cons_of_mem _ hy)]
  refine ⟨_, e acc this, ?_⟩
  have := h.map fun x => match x with | .str s => s | _ => []
  rw [List.map_map] at this
  have e2 : (l.map ((fun x => match x with | D.str s => s | _ => []) ∘ D.str)) = l := by
    rw [show ((fun x => match x with | D.str s => s | _ => []) ∘ D.str) = id from rfl, List.map_id]
  rw [e2] at this
  exact this
theorem range_step {N n : Nat} {x : D} {tl : List D} (h : x :: tl = (rangeL 0 N).drop n) : n < N ∧ x = .int (n : Int) ∧ tl = (rangeL 0 N).drop (n + 1) := by
  have hn : n < N := by
    rcases Nat.lt_or_ge n N with h' | h'
    · exact h'
    · rw [List.drop_eq_nil_of_le (by simp [rangeL]; omega)] at h; cases h
  have hl : n < (rangeL 0 N).length := by simp [rangeL]; omega
  rw [List.drop_eq_getElem_cons hl] at h
  obtain ⟨rfl, rfl⟩ := List.cons.inj h
  refine ⟨hn, ?_, rfl⟩
  simp [rangeL]
theorem range_end {N n : Nat} (h : [] = (rangeL 0 N).drop n) (hn : n ≤ N) : n = N := by
  have := congrArg List.length h
  simp [rangeL] at this
  omega
theorem comp_fm_go {α : Type} {step : D → Env → Store → (Option D → Env → Store → Prop) → Prop} {K : List D → Env → Store → Prop} {env : Env} {μ : Store} (g : α → D) (f : α → Option D) : ∀ (xs : List α) (acc : List D),
    (∀ x ∈ xs, ∀ K', K' (f x) env μ → step (g x) env μ K') → acc.length + xs.length ≤ big → K (acc ++ xs.filterMap f) env μ → compLoop step (xs.map g) acc env μ K
  | [], acc, hs, hl, e => by rw [List.filterMap_nil, List.append_nil] at e; exact e
  | x :: r, acc, hs, hl, e => by
    rw [List.map_cons]
    show step (g x) env μ _
    refine hs x List.mem_cons_self _ ?_
    rw [List.length_cons] at hl
    cases hf : f x with
    | none =>
      rw [List.filterMap_cons, hf] at e
      exact comp_fm_go g f r acc (fun y hy => hs y (List.mem_cons_of_mem _ hy)) (by omega) e
    | some q =>
      rw [List.filterMap_cons, hf] at e
      have e : K (acc ++ (q :: r.filterMap f)) env μ := e
      refine ⟨by omega, comp_fm_go g f r (acc ++ [q]) (fun y hy => hs y (List.mem_cons_of_mem _ hy)) (by rw [List.length_append, List.length_cons, List.length_nil]; omega) ?_⟩
      rw [List.append_assoc]; exact e
theorem comp_fm {α : Type} {step : D → Env → Store → (Option D → Env → Store → Prop) → Prop} {K : List D → Env → Store → Prop} {env : Env} {μ : Store} (xs : List α) (g : α → D) (f : α → Option D)
    (hs : ∀ x ∈ xs, ∀ K', K' (f x) env μ → step (g x) env μ K') (hl : xs.length ≤ big) (e : K (xs.filterMap f) env μ) : compLoop step (xs.map g) [] env μ K :=
  comp_fm_go g f xs [] hs (by simpa using hl) (by simpa using e)
theorem comp_map {α : Type} {step : D → Env → Store → (Option D → Env → Store → Prop) → Prop} {K : List D → Env → Store → Prop} {env : Env} {μ : Store} (xs : List α) (g f : α → D)
    (hs : ∀ x ∈ xs, ∀ K', K' (some (f x)) env μ → step (g x) env μ K') (hl : xs.length ≤ big) (e : K (xs.map f) env μ) : compLoop step (xs.map g) [] env μ K :=
  comp_fm xs g (fun x => some (f x)) hs hl (by rw [show (fun x => some (f x)) = some ∘ f from rfl, List.filterMap_eq_map]; exact e)
def dputs (acc : List (D × D)) (l : List (D × D)) : List (D × D) := l.foldl (fun a q => dput a q.1 q.2) acc
theorem dput_len (kvs : List (D × D)) (k v : D) : (dput kvs k v).length ≤ kvs.length + 1 := by
  unfold dput
  split
  · rw [List.length_map]; omega
  · rw [List.length_append]; simp
theorem dcomp_map_go {α : Type} {step : D → Env → Store → (Option (D × D) → Env → Store → Prop) → Prop} {K : List (D × D) → Env → Store → Prop} {env : Env} {μ : Store} (g : α → D) (f : α → D × D) : ∀ (xs : List α) (acc : List (D × D)),
    (∀ x ∈ xs, ∀ K', K' (some (f x)) env μ → step (g x) env μ K') → acc.length + xs.length ≤ big → K (dputs acc (xs.map f)) env μ → dcompLoop step (xs.map g) acc env μ K
  | [], acc, hs, hl, e => e
  | x :: r, acc, hs, hl, e => by
    rw [List.map_cons]
    show step (g x) env μ _
    refine hs x List.mem_cons_self _ ?_
    rw [List.length_cons] at hl
    have := dput_len acc (f x).1 (f x).2
    exact ⟨by omega, dcomp_map_go g f r _ (fun y hy => hs y (List.mem_cons_of_mem _ hy)) (by omega) e⟩
theorem dcomp_map {α : Type} {step : D → Env → Store → (Option (D × D) → Env → Store → Prop) → Prop} {K : List (D × D) → Env → Store → Prop} {env : Env} {μ : Store} (xs : List α) (g : α → D) (f : α → D × D)
    (hs : ∀ x ∈ xs, ∀ K', K' (some (f x)) env μ → step (g x) env μ K') (hl : xs.length ≤ big) (e : K (dputs [] (xs.map f)) env μ) : dcompLoop step (xs.map g) [] env μ K :=
  dcomp_map_go g f xs [] hs (by simpa using hl) e
theorem down_step {lo : Int} {N n : Nat} {x : D} {tl : List D} (h : x :: tl = (downL lo N).drop n) : n < N ∧ x = .int (lo - (n : Int)) ∧ tl = (downL lo N).drop (n + 1) := by
  have hn : n < N := by
    rcases Nat.lt_or_ge n N with h' | h'
    · exact h'
    · rw [List.drop_eq_nil_of_le (by simp [downL]; omega)] at h; cases h
  have hl : n < (downL lo N).length := by simp [downL]; omega
  rw [List.drop_eq_getElem_cons hl] at h
  obtain ⟨rfl, rfl⟩ := List.cons.inj h
  refine ⟨hn, ?_, rfl⟩
  simp [downL]
theorem down_end {lo : Int} {N n : Nat} (h : [] = (downL lo N).drop n) (hn : n ≤ N) : n = N := by
  have := congrArg List.length h
  simp [downL] at this
  omega
theorem for_all {α : Type} {body : D → Env → Store → (Env → Store → Prop) → Prop} {K : Env → Store → Prop} {env : Env} {μ : Store} (g : α → D) (ok : α → Bool) (Fin : Prop) : ∀ (xs : List α)
    (_ : ∀ x ∈ xs, ∀ K', (ok x = true → K' env μ) → (ok x = false → Fin) → body (g x) env μ K') (_ : xs.all ok = true → K env μ) (_ : xs.all ok = false → Fin), forLoop body (xs.map g) env μ K
  | [], hs, e, ef => e rfl
  | x :: r, hs, e, ef => by
    rw [List.map_cons]
    show body (g x) env μ _
    rw [List.all_cons] at e ef
    refine hs x List.mem_cons_self _ (fun h => ?_) fun h => ef (by rw [h]; rfl)
    rw [h, Bool.true_and] at e ef
    exact for_all g ok Fin r (fun y hy => hs y (List.mem_cons_of_mem _ hy)) e ef
theorem boolsOf_map {α : Type} (f : α → Bool) (l : List α) : boolsOf (l.map fun x => D.bl (f x)) = some (l.map f) := by
  induction l with
  | nil => rfl
  | cons x r ih => show (boolsOf (r.map fun x => D.bl (f x))).map (f x :: ·) = _; rw [ih]; rfl
end
end Law

set_option autoImplicit false
set_option linter.all false
set_option maxRecDepth 10000
namespace Law
open Pv
local macro_rules | `(tactic| get_elem_tactic_trivial) => `(tactic| simp (maxSteps := 2000000) only [wpE_lit, wpE_var, wpE_glob, wpE_tup, wpE_lst, wpE_dnew, wpE_dict, wpE_lrange, wpE_lrange2, wpE_denum2, wpE_sset, wpE_ssetS, wpE_state, wpE_neg, wpE_bin, wpE_cmp, wpE_chain, wpE_and, wpE_or, wpE_not, wpE_ite, wpE_idx, wpE_slice, wpE_rev, wpE_stepS, wpE_call, wpE_blt, wpE_dget, wpE_dget2, wpE_mut, wpE_mutF, wpE_comp, wpE_dict1, wpE_dcomp, wpE_dvals, wpE_indexOf, wpE_tupS, wpE_lstS, wpE_isInst, wpE_gget, wpE_gget2, wpE_gidx, wpE_gmem, wpE_gcd, wpLS_nil, wpLS_star, wpLS_one, wpI_rngD, wpI_rngL, wpI_zip, wpI_items, wpI_keys, bin_bor, bin_band, bin_shl, bin_shr, blt_sum, blt_all, blt_any, blt_maxL, blt_minL, blt_minP,
  wpL_nil, wpL_cons, wpF_nil, wpF_cons, wpA_nil, wpA_lent, wpA_fz, wpB_one, wpB_cons, wpO_none, wpO_some, wpC_nil, wpC_cons, wpI_seq, wpI_rng, wpI_rng2, wpI_enum, wpP_nil, wpP_cons, wpSs_nil, wpSs_cons, wpS_expr, wpS_assign, wpS_par, wpS_setIdx, wpS_aug, wpS_retN, wpS_ret, wpS_ite, wpS_for, wpS_while, wpS_brk, wpS_cont, wpS_pass,
  giveT_var, giveT_tup, giveL_nil, giveL_cons, give_fz, give_fresh, give_bor, esc_fz, esc_fresh, esc_bor, escI_fz, escI_fresh, escI_bor, kept_fz, kept_fresh, kept_bor, retK_fz, retK_fresh, retK_bor,
  List.getElem?_cons_zero, List.getElem?_cons_succ, List.getElem?_nil, List.set_cons_zero, List.set_cons_succ, List.foldl_cons, List.foldl_nil, List.zip_cons_cons, List.zip_nil_left, List.zip_nil_right, List.zipWith_cons_cons, List.zipWith_nil_left, List.zipWith_nil_right, List.length_cons, List.length_nil, List.replicate, List.cons_append, List.nil_append, List.set_nil, wipeE, back, back,
  Option.some.injEq, Prod.mk.injEq, exists_and_left, exists_eq_left', exists_eq_right', exists_eq', and_true, true_and, and_assoc, if_true, if_false, ↓reduceIte, reduceCtorEq, false_and, and_false, exists_false, or_false, false_or, D.int.injEq, D.str.injEq, D.tup.injEq, D.lst.injEq, D.dic.injEq, D.ref.injEq, D.bl.injEq, List.cons.injEq,
  getF, setF, List.find?_cons, List.find?_nil, Option.map_some, Option.map_none, tru_bl, tru_int, tru_non, tru_tup, tru_lst, tru_str, bin_add_int, bin_sub_int, bin_mul_int, bin_fdiv_int, bin_mod_int, bin_pow_int, bin_add_str, bin_add_lst, bin_add_tup, bin_mul_lst, bin_mul_tup, cmp_lt_int, cmp_le_int, cmp_gt_int, cmp_ge_int, cmp_lt_str, cmp_le_str, cmp_gt_str, cmp_ge_str, cmp_eq_rep, cmp_ne_rep, cmp_eq_int, cmp_eq_str, cmp_eq_tup, cmp_eq_lst, cmp_eq_bl, cmp_ne_int, cmp_ne_str, cmp_ne_tup, cmp_ne_lst, cmp_ne_bl, cmp_mem, cmp_notMem, mem_tup, mem_lst, mem_dic, idx_tup, idx_lst, idx_str, idx_dic_int, idx_dic_str, idx_ref, isKey_int, isKey_str, blt_len_tup, blt_len_lst, blt_len_dic, blt_len_str, blt_abs, blt_int, blt_int_bl, blt_max, blt_min, blt_list_lst, blt_list_tup, blt_tuple_lst, blt_tuple_tup, blt_repr, blt_sorted, kind_int, kind_str, kind_bl, kind_tup, kind_rep, kind_non, kind_lst, kind_dic, optI_none, optI_some, slice_tup, slice_lst, slice_str, rev_lst, rev_tup, items_tup, items_lst, mut_append, mut_pop, mut_popAt, mut_extend, set_lst, set_dic, Nat.reduceSub, Nat.reduceAdd, nil_beq, eq_self, Nat.reduceBEq, List.cons_beq_cons, List.isEmpty_cons, List.isEmpty_nil, Bool.and_true, Bool.and_false, Bool.true_and, Bool.false_and, Bool.not_true, Bool.not_false, Bool.false_eq_true, List.map_cons, List.map_nil, decide_eq_true_eq, Nat.reduceEqDiff])
/-! ### sheets -/
abbrev kLetter : List Nat := [108, 101, 116, 116, 101, 114]
abbrev kYes : List Nat := [121, 101, 115]
abbrev kNot : List Nat := [110, 111, 116]
abbrev kAnd : List Nat := [97, 110, 100]
abbrev kOr : List Nat := [111, 114]
abbrev kUntil : List Nat := [117, 110, 116, 105, 108]
abbrev kSince : List Nat := [115, 105, 110, 99, 101]
inductive Ln where
  | letter (s : List Nat) | yes | op (w : List Nat) (ms : List Nat)
def Ln.mem : Ln → List Nat
  | .op _ ms => ms
  | _ => []
def Ln.word : Ln → List Nat
  | .letter _ => kLetter
  | .yes => kYes
  | .op w _ => w
def Ln.toD : Ln → D
  | .letter s => .tup [.str kLetter, .str s]
  | .yes => .tup [.str kYes]
  | .op w ms => .tup (.str w :: ms.map fun (m : Nat) => .int (m : Int))
def Ln.look : Ln → Bool
  | .letter _ => true
  | .yes => false
  | .op w _ => w == kUntil || w == kSince
def okw (w : List Nat) : Prop := w = kNot ∨ w = kAnd ∨ w = kOr ∨ w = kUntil ∨ w = kSince
/-- how many members a line of such a word has -/
def ar (w : List Nat) : Nat := if w == kNot then 1 else 2
def WfL (i : Nat) : Ln → Prop
  | .letter s => okS s = true
  | .yes => True
  | .op w ms => okw w ∧ ms.length ≤ 2 ∧ (∀ m ∈ ms, m < i) ∧ ms.length = ar w
def Wf (sh : List Ln) : Prop := ∀ (i : Nat) (l : Ln), sh[i]? = some l → WfL i l
abbrev shD (sh : List Ln) : D := .tup (sh.map Ln.toD)
def lookAt (sh : List Ln) (m : Nat) : Bool := match sh[m]? with | some l => l.look | none => false
def memAt (sh : List Ln) (m : Nat) : List Nat := match sh[m]? with | some l => l.mem | none => []
theorem okw_S {w : List Nat} (h : okw w) : okS w = true := by rcases h with rfl | rfl | rfl | rfl | rfl <;> rfl
theorem word_S {l : Ln} {i : Nat} (h : WfL i l) : okS l.word = true := by
  cases l with
  | letter s => rfl
  | yes => rfl
  | op w ms => exact okw_S h.1
theorem memAt_lt {sh : List Ln} (wf : Wf sh) {k m : Nat} (h : m ∈ memAt sh k) : m < k ∧ k < sh.length := by
  unfold memAt at h
  cases e : sh[k]? with
  | none => rw [e] at h; cases h
  | some l =>
    rw [e] at h
    have hk : k < sh.length := (List.getElem?_eq_some_iff.mp e).1
    cases l with
    | letter s => cases h
    | yes => cases h
    | op w ms => exact ⟨(wf k _ e).2.2.1 m h, hk⟩
section
variable {d : Nat} {μ : Store} {Q : Nat → D → Store → Prop} {X : D → Store → Prop} {sh : List Ln} {l : Ln} {i k p m : Nat}
theorem atI_sh {m : Nat} (h : sh[m]? = some l) : atI (sh.map Ln.toD) (m : Int) = some l.toD := atI_nat (by rw [List.getElem?_map, h]; rfl)
theorem idx_ln {Q : Kd → D → Prop} : idxP l.toD (.int 0) μ Q = Q .fz (.str l.word) := by
  cases l with
  | letter s => exact propext ⟨fun ⟨d, e, h⟩ => by cases e; exact h, fun h => ⟨_, rfl, h⟩⟩
  | yes => exact propext ⟨fun ⟨d, e, h⟩ => by cases e; exact h, fun h => ⟨_, rfl, h⟩⟩
  | op w ms =>
    have e0 : atI (D.str w :: ms.map fun (m : Nat) => D.int (m : Int)) 0 = some (.str w) := atI_nat (j := 0) rfl
    exact propext ⟨fun ⟨d, e, h⟩ => by rw [e0] at e; cases e; exact h, fun h => ⟨_, e0, h⟩⟩
theorem cut1 {α : Type} (x : α) (r : List α) : cut (x :: r) (some 1) none = r := by
  unfold cut sIx
  simp
theorem slice_ln {K : D → Prop} (hl : ∀ s, l ≠ .letter s) : sliceP l.toD (some 1) none K = K (.tup (l.mem.map fun (m : Nat) => .int (m : Int))) := by
  cases l with
  | letter s => exact absurd rfl (hl s)
  | yes => rfl
  | op w ms => show K (.tup (cut _ _ _)) = _; rw [cut1]; rfl
theorem any_two {w a b : List Nat} : ([D.str a, D.str b].any fun x => pyEq x (.str w)) = (a == w || b == w) := by
  show ((a == w) || ((b == w) || false)) = _
  rw [Bool.or_false]
theorem any_three {w a b c : List Nat} : ([D.str a, D.str b, D.str c].any fun x => pyEq x (.str w)) = (a == w || (b == w || c == w)) := by
  show ((a == w) || ((b == w) || ((c == w) || false))) = _
  rw [Bool.or_false]
def Ln.leaf : Ln → Bool
  | .op _ _ => false
  | _ => true
theorem word_ly (wf : WfL i l) : (kLetter == l.word || kYes == l.word) = l.leaf := by
  cases l with
  | letter s => rfl
  | yes => rfl
  | op w ms => rcases wf.1 with h | h | h | h | h <;> (subst h; rfl)
theorem plain_str {s : List Nat} {n : Nat} : plain (.str s) n = okS s := rfl
abbrev iD (l : List Nat) : List D := l.map fun (m : Nat) => D.int (m : Int)
theorem plain_iD (l : List Nat) (n : Nat) : plainL (iD l) n = true := by
  induction l with
  | nil => rfl
  | cons x r ih => exact ih
theorem pyEqL_nil (l : List Nat) : pyEqL (iD l) [] = l.isEmpty := by cases l <;> rfl
theorem lmembers_ok (wf : WfL i l) (post : Q 1 (.lst (iD l.mem)) μ) : callN Pg (d + 1) "_law_members" [l.toD] μ Q X := by
  rw [callN_succ]
  refine ⟨d__law_members, rfl, rfl, ?_⟩
  show wpSs _ _ b__law_members _ [some (2, l.toD)] _
  unfold b__law_members
  get_elem_tactic_trivial
  rw [idx_ln]
  get_elem_tactic_trivial
  refine ⟨word_S wf, rfl, ?_⟩
  rw [any_two, word_ly wf]
  cases l with
  | letter s => exact post
  | yes => exact post
  | op w ms =>
    rw [show (Ln.op w ms).leaf = false from rfl, if_neg (by decide), slice_ln (fun s e => by cases e)]
    exact post
theorem last_int (h : 1 ≤ sh.length) : ((sh.length : Int) - 1) = ((sh.length - 1 : Nat) : Int) := by omega
theorem toD_op {w : List Nat} {ms : List Nat} : (Ln.op w ms).toD = .tup (.str w :: iD ms) := rfl
theorem Wf.snoc (wf : Wf sh) (h : WfL sh.length l) : Wf (sh ++ [l]) := fun i x hx => by
  by_cases hi : i < sh.length
  · rw [List.getElem?_append_left hi] at hx; exact wf i x hx
  · rw [List.getElem?_append_right (by omega)] at hx
    have : i - sh.length = 0 := by
      by_cases h0 : i - sh.length = 0
      · exact h0
      · rw [List.getElem?_eq_none (by simp; omega)] at hx; cases hx
    rw [this] at hx
    cases hx
    have : i = sh.length := by omega
    subst this
    exact h
theorem cut01 {α : Type} (x : α) (r : List α) : cut (x :: r) none (some 1) = [x] := by
  unfold cut sIx
  simp
def lineAt (sh : List Ln) (m : Nat) : Ln := match sh[m]? with | some l => l | none => .yes
theorem line_at (h : sh[m]? = some l) : lineAt sh m = l := by unfold lineAt; rw [h]
def wordAt (sh : List Ln) (m : Nat) : List Nat := match sh[m]? with | some l => l.word | none => []
abbrev cI (l : List Nat) : List Int := l.map fun (m : Nat) => (m : Int)
theorem word_at (h : sh[m]? = some l) : wordAt sh m = l.word := by unfold wordAt; rw [h]
theorem word_Sat (wf : Wf sh) : okS (wordAt sh m) = true := by
  unfold wordAt
  cases e : sh[m]? with
  | none => rfl
  | some l => exact word_S (wf m l e)
def shBody : List S := match b__law_sheet with | [_, .for_ _ _ _ b, _] => b | _ => []
instance (w : List Nat) : Decidable (okw w) := by unfold okw; infer_instance
abbrev okV (w : List Nat) : Prop := okw w ∨ w = kLetter ∨ w = kYes
theorem sheet_ok {words : List (List Nat)} {most : Int} (h : Src μ) (hne : words ≠ []) (hwl : words.length < 100) (hw : ∀ w ∈ words, okS w = true) (h1 : 1 ≤ most) (h2 : most ≤ 100) (post : ∀ sh μ', Wf sh → 1 ≤ sh.length → (sh.length : Int) ≤ most → Src μ' → Q 0 (shD sh) μ') :
    callN Pg (d + 3) "_law_sheet" [.ref 0, lS words, .int most] μ Q X := by
  rw [callN_succ]
  refine ⟨d__law_sheet, rfl, rfl, ?_⟩
  show wpSs _ _ b__law_sheet _ [some (0, .ref 0), some (2, lS words), some (2, .int most), none, none, none, none, none, none] _
  rw [wpSs_split 1]
  generalize hE0 : Ends.mk _ _ _ _ _ = E0
  dsimp only [b__law_sheet, List.take]
  get_elem_tactic_trivial
  refine pick_ok h (by omega) fun r μ1 hs1 r0 r1 => ?_
  get_elem_tactic_trivial
  rw [← hE0]
  dsimp only [b__law_sheet, List.drop]
  rw [wpSs_cons, wpS_for, wpI_rng, wpE_var]
  refine ⟨0, .int (1 + r), rfl, _, rfl, ⟨by omega, by omega⟩, ?_⟩
  obtain ⟨N, hN⟩ : ∃ N : Nat, 1 + r = (N : Int) := ⟨(1 + r).toNat, by omega⟩
  rw [hN]
  have eN : (N : Int).toNat = N := by omega
  rw [eN]
  refine for_ok (fun pre tl env ν => Src ν ∧ ∃ n, n ≤ N ∧ tl = (rangeL 0 N).drop n ∧ ∃ sh, Wf sh ∧ sh.length = n ∧ env = [some (0, .ref 0), some (2, lS words), some (2, .int most), some (1, .lst (sh.map Ln.toD)), some (0, .int (N : Int)), none, none, none, none]) ⟨hs1, 0, Nat.zero_le _, rfl, [], fun i l hi => by simp at hi, rfl, rfl⟩ ?_ ?_
  · rintro pre x tl env ν K' ⟨hs, n, hn, htl, sh, wf, hsl, rfl⟩ hk
    obtain ⟨hn2, rfl, rfl⟩ := range_step htl
    have app : ∀ l ν', WfL n l → Src ν' → K' [some (0, .ref 0), some (2, lS words), some (2, .int most), some (1, .lst (sh.map Ln.toD ++ [l.toD])), some (0, .int (N : Int)), none, none, none, none] ν' := fun l ν' hl hs' =>
      hk _ _ ⟨hs', n + 1, hn2, rfl, sh ++ [l], wf.snoc (hsl ▸ hl), by simp [hsl], by simp⟩
    rw [giveT_var, give_fz]
    show wpSs _ _ shBody _ [some (0, .ref 0), some (2, lS words), some (2, .int most), some (1, .lst (sh.map Ln.toD)), some (0, .int (N : Int)), some (0, .int (n : Int)), none, none, none] ν
    generalize hE : Ends.mk _ _ _ _ _ = E'
    have hnx : ∀ l ν' s6 s7 s8, WfL n l → Src ν' → E'.nx [some (0, .ref 0), some (2, lS words), some (2, .int most), some (1, .lst (sh.map Ln.toD ++ [l.toD])), some (0, .int (N : Int)), some (0, .int (n : Int)), s6, s7, s8] ν' := fun l ν' s6 s7 s8 h1 h2 => by
      rw [← hE]; exact app l ν' h1 h2
    rw [show shBody = shBody.take 3 ++ shBody.drop 3 from rfl, wpSs_append]
    have tail : ∀ s6 w ν', okV w → (n = 0 → w = kLetter) → Src ν' → wpSs (callN Pg (d + 2)) Pg.gl (shBody.drop 3) E' [some (0, .ref 0), some (2, lS words), some (2, .int most), some (1, .lst (sh.map Ln.toD)), some (0, .int (N : Int)), some (0, .int (n : Int)), s6, some (0, .str w), none] ν' := by
      intro s6 w ν' hw0 hw1 hs'
      rw [show shBody.drop 3 = (shBody.drop 3).take 1 ++ shBody.drop 4 from rfl, wpSs_append]
      have tail2 : ∀ a b ν', (0 < n → 0 ≤ a ∧ a < (n : Int) ∧ 0 ≤ b ∧ b < (n : Int)) → Src ν' → wpSs (callN Pg (d + 2)) Pg.gl (shBody.drop 4) E' [some (0, .ref 0), some (2, lS words), some (2, .int most), some (1, .lst (sh.map Ln.toD)), some (0, .int (N : Int)), some (0, .int (n : Int)), s6, some (0, .str w), some (1, .lst [.int a, .int b])] ν' := by
        intro a b ν' hab hs'
        dsimp only [shBody, b__law_sheet, List.take, List.drop]
        get_elem_tactic_trivial
        have okSw : okS w = true := by
          rcases hw0 with h | rfl | rfl
          · exact okw_S h
          · rfl
          · rfl
        have len : (List.map Ln.toD sh).length < big := by simp [big]; omega
        refine ⟨okSw, rfl, ?_⟩
        rw [any_two]
        rcases hw0 with hw0 | rfl | rfl
        · have n0 : 0 < n := by
            rcases Nat.eq_zero_or_pos n with h | h
            · have := hw1 h; subst this; rcases hw0 with h | h | h | h | h <;> cases h
            · exact h
          obtain ⟨a0, a1, b0, b1⟩ := hab n0
          have c1 : (kLetter == w || kYes == w) = false := by rcases hw0 with rfl | rfl | rfl | rfl | rfl <;> rfl
          rw [c1, if_neg (by decide)]
          refine ⟨okSw, rfl, ?_⟩
          by_cases hnot : (w == kNot) = true
          · rw [if_pos hnot]
            refine ⟨.int a, rfl, len, ?_⟩
            have := hnx (.op kNot [a.toNat]) ν' s6 (some (0, .str w)) (some (1, .lst [.int a, .int b])) (show okw kNot ∧ _ from ⟨.inl rfl, by simp, fun m hm => by rw [List.mem_singleton.mp hm]; omega, rfl⟩) hs'
            rw [show (Ln.op kNot [a.toNat]).toD = .tup [.str kNot, .int a] by simp [Ln.toD]; omega] at this
            exact this
          · rw [if_neg hnot]
            refine mixed_ok hs' (by simp) fun acc μ'' hp hs'' => ?_
            obtain ⟨x, y, rfl⟩ : ∃ x y, acc = [x, y] := by
              have := hp.length_eq
              match acc, this with
              | [x, y], _ => exact ⟨x, y, rfl⟩
            have each : ∀ z ∈ [x, y], ∃ m : Nat, m < n ∧ z = .int (m : Int) := fun z hz => by
              have hz := hp.mem_iff.mp hz
              rcases List.mem_cons.mp hz with rfl | hz
              · exact ⟨a.toNat, by omega, by rw [show ((a.toNat : Nat) : Int) = a by omega]⟩
              · rw [List.mem_singleton.mp hz]; exact ⟨b.toNat, by omega, by rw [show ((b.toNat : Nat) : Int) = b by omega]⟩
            obtain ⟨m1, h1', rfl⟩ := each x (by simp)
            obtain ⟨m2, h2', rfl⟩ := each y (by simp)
            have := hnx (.op w [m1, m2]) μ'' s6 (some (0, .str w)) (some (1, .lst [.int a, .int b])) (show okw w ∧ _ from ⟨hw0, by simp, fun m hm => by
              rcases List.mem_cons.mp hm with rfl | hm
              · exact h1'
              · rw [List.mem_singleton.mp hm]; exact h2', by unfold ar; rw [if_neg hnot]; rfl⟩) hs''
            exact ⟨show 1 + 2 ≤ big by decide, _, rfl, len, this⟩
        · rw [if_pos (by decide)]
          refine ⟨rfl, rfl, ?_⟩
          rw [if_pos (by decide)]
          refine of_ok hs' (by simpa using hne) (by simp; omega) fun x hx μ'' hs'' => ?_
          obtain ⟨v, hv, rfl⟩ := List.mem_map.mp hx
          exact ⟨_, rfl, len, hnx (.letter v) μ'' s6 (some (0, .str kLetter)) (some (1, .lst [.int a, .int b])) (hw v hv) hs''⟩
        · rw [if_pos (by decide)]
          refine ⟨rfl, rfl, ?_⟩
          rw [if_neg (by decide)]
          exact ⟨len, hnx .yes ν' s6 (some (0, .str kYes)) (some (1, .lst [.int a, .int b])) trivial hs'⟩
      generalize hK2 : (fun env μ => wpSs (callN Pg (d + 2)) Pg.gl (shBody.drop 4) E' env μ) = K2
      dsimp only [shBody, b__law_sheet, List.take, List.drop]
      get_elem_tactic_trivial
      refine pick_ok hs' (by split <;> omega) fun r1 μ2 hs2 p0 p1 => ?_
      get_elem_tactic_trivial
      refine pick_ok hs2 (by omega) fun r2 μ3 hs3 q0 q1 => ?_
      get_elem_tactic_trivial
      rw [← hK2]
      exact tail2 ((n : Int) - 1 - r1) r2 μ3 (fun hn0 => by
        split at p1 <;> omega) hs3
    generalize hK1 : (fun env μ => wpSs (callN Pg (d + 2)) Pg.gl (shBody.drop 3) E' env μ) = K1
    dsimp only [shBody, b__law_sheet, List.take, List.drop]
    get_elem_tactic_trivial
    have pickw : ∀ (L : List D) (lv : Nat) (Y : D → Store → Prop), (∀ x ∈ L, ∃ w, x = .str w ∧ okV w) → L ≠ [] → L.length < 1000 → 0 < n →
        callN Pg (d + 2) "_law_of" [D.ref 0, .lst L] ν (fun l d μ' => give 7 (if l = 0 then Kd.fz else Kd.fresh) d [some (0, .ref 0), some (2, lS words), some (2, .int most), some (1, .lst (sh.map Ln.toD)), some (0, .int (N : Int)), some (0, .int (n : Int)), some (lv, .lst L), none, none] fun env => K1 env μ') Y := fun L lv Y hL hL1 hL2 hn0 => by
      refine of_ok hs hL1 (by omega) fun x hx μ' hs' => ?_
      obtain ⟨w, rfl, hw⟩ := hL x hx
      rw [← hK1]
      exact tail _ w μ' hw (fun h => by omega) hs'
    have n0 : ¬ (0 < (n : Int)) → n = 0 := fun h => by omega
    have ok7 : ∀ x ∈ [D.str kUntil, D.str kSince, D.str kUntil, D.str kSince, D.str kNot, D.str kAnd, D.str kOr], ∃ w, x = .str w ∧ okV w := by
      intro x hx
      simp only [List.mem_cons, List.not_mem_nil, or_false] at hx
      rcases hx with rfl | rfl | rfl | rfl | rfl | rfl | rfl <;> exact ⟨_, rfl, by decide⟩
    have ok10 : ∀ x ∈ [D.str kUntil, D.str kSince, D.str kUntil, D.str kSince, D.str kNot, D.str kAnd, D.str kOr, D.str kLetter, D.str kLetter, D.str kYes], ∃ w, x = .str w ∧ okV w := by
      intro x hx
      simp only [List.mem_cons, List.not_mem_nil, or_false] at hx
      rcases hx with rfl | rfl | rfl | rfl | rfl | rfl | rfl | rfl | rfl | rfl <;> exact ⟨_, rfl, by decide⟩
    by_cases c1 : (n : Int) + 1 < N
    · rw [if_pos c1]
      refine ⟨by decide, ?_⟩
      by_cases c2 : 0 < (n : Int)
      · rw [if_pos c2]
        exact pickw _ 1 _ ok10 (by simp) (by simp) (by omega)
      · rw [if_neg c2]
        rw [← hK1]
        exact tail _ kLetter ν (.inr (.inl rfl)) (fun _ => rfl) hs
    · rw [if_neg c1]
      by_cases c2 : 0 < (n : Int)
      · rw [if_pos c2]
        exact pickw _ 0 _ ok7 (by simp) (by simp) (by omega)
      · rw [if_neg c2]
        rw [← hK1]
        exact tail _ kLetter ν (.inr (.inl rfl)) (fun _ => rfl) hs
  · rintro pre env ν ⟨hs, n, hn, htl, sh, wf, hsl, rfl⟩
    have := range_end htl hn
    subst this
    get_elem_tactic_trivial
    exact post sh ν wf (by omega) (by omega) hs
theorem mem_le2 (wf : WfL i l) : l.mem.length ≤ 2 := by
  cases l with
  | letter s => simp [Ln.mem]
  | yes => simp [Ln.mem]
  | op w ms => exact wf.2.1
end
end Law

set_option autoImplicit false
set_option linter.all false
set_option maxRecDepth 10000
namespace Law
open Pv
local macro_rules | `(tactic| get_elem_tactic_trivial) => `(tactic| simp (maxSteps := 2000000) only [wpE_lit, wpE_var, wpE_glob, wpE_tup, wpE_lst, wpE_dnew, wpE_dict, wpE_lrange, wpE_lrange2, wpE_denum2, wpE_sset, wpE_ssetS, wpE_state, wpE_neg, wpE_bin, wpE_cmp, wpE_chain, wpE_and, wpE_or, wpE_not, wpE_ite, wpE_idx, wpE_slice, wpE_rev, wpE_stepS, wpE_call, wpE_blt, wpE_dget, wpE_dget2, wpE_mut, wpE_mutF, wpE_comp, wpE_dict1, wpE_dcomp, wpE_dvals, wpE_indexOf, wpE_tupS, wpE_lstS, wpE_isInst, wpE_gget, wpE_gget2, wpE_gidx, wpE_gmem, wpE_gcd, wpLS_nil, wpLS_star, wpLS_one, wpI_rngD, wpI_rngL, wpI_zip, wpI_items, wpI_keys, bin_bor, bin_band, bin_shl, bin_shr, blt_sum, blt_all, blt_any, blt_maxL, blt_minL, blt_minP,
  wpL_nil, wpL_cons, wpF_nil, wpF_cons, wpA_nil, wpA_lent, wpA_fz, wpB_one, wpB_cons, wpO_none, wpO_some, wpC_nil, wpC_cons, wpI_seq, wpI_rng, wpI_rng2, wpI_enum, wpP_nil, wpP_cons, wpSs_nil, wpSs_cons, wpS_expr, wpS_assign, wpS_par, wpS_setIdx, wpS_aug, wpS_retN, wpS_ret, wpS_ite, wpS_for, wpS_while, wpS_brk, wpS_cont, wpS_pass,
  giveT_var, giveT_tup, giveL_nil, giveL_cons, give_fz, give_fresh, give_bor, esc_fz, esc_fresh, esc_bor, escI_fz, escI_fresh, escI_bor, kept_fz, kept_fresh, kept_bor, retK_fz, retK_fresh, retK_bor,
  List.getElem?_cons_zero, List.getElem?_cons_succ, List.getElem?_nil, List.set_cons_zero, List.set_cons_succ, List.foldl_cons, List.foldl_nil, List.zip_cons_cons, List.zip_nil_left, List.zip_nil_right, List.zipWith_cons_cons, List.zipWith_nil_left, List.zipWith_nil_right, List.length_cons, List.length_nil, List.replicate, List.cons_append, List.nil_append, List.set_nil, wipeE, back, back,
  Option.some.injEq, Prod.mk.injEq, exists_and_left, exists_eq_left', exists_eq_right', exists_eq', and_true, true_and, and_assoc, if_true, if_false, ↓reduceIte, reduceCtorEq, false_and, and_false, exists_false, or_false, false_or, D.int.injEq, D.str.injEq, D.tup.injEq, D.lst.injEq, D.dic.injEq, D.ref.injEq, D.bl.injEq, List.cons.injEq,
  getF, setF, List.find?_cons, List.find?_nil, Option.map_some, Option.map_none, tru_bl, tru_int, tru_non, tru_tup, tru_lst, tru_str, bin_add_int, bin_sub_int, bin_mul_int, bin_fdiv_int, bin_mod_int, bin_pow_int, bin_add_str, bin_add_lst, bin_add_tup, bin_mul_lst, bin_mul_tup, cmp_lt_int, cmp_le_int, cmp_gt_int, cmp_ge_int, cmp_lt_str, cmp_le_str, cmp_gt_str, cmp_ge_str, cmp_eq_rep, cmp_ne_rep, cmp_eq_int, cmp_eq_str, cmp_eq_tup, cmp_eq_lst, cmp_eq_bl, cmp_ne_int, cmp_ne_str, cmp_ne_tup, cmp_ne_lst, cmp_ne_bl, cmp_mem, cmp_notMem, mem_tup, mem_lst, mem_dic, idx_tup, idx_lst, idx_str, idx_dic_int, idx_dic_str, idx_ref, isKey_int, isKey_str, blt_len_tup, blt_len_lst, blt_len_dic, blt_len_str, blt_abs, blt_int, blt_int_bl, blt_max, blt_min, blt_list_lst, blt_list_tup, blt_tuple_lst, blt_tuple_tup, blt_repr, blt_sorted, kind_int, kind_str, kind_bl, kind_tup, kind_rep, kind_non, kind_lst, kind_dic, optI_none, optI_some, slice_tup, slice_lst, slice_str, rev_lst, rev_tup, items_tup, items_lst, mut_append, mut_pop, mut_popAt, mut_extend, set_lst, set_dic, Nat.reduceSub, Nat.reduceAdd, nil_beq, eq_self, Nat.reduceBEq, List.cons_beq_cons, List.isEmpty_cons, List.isEmpty_nil, Bool.and_true, Bool.and_false, Bool.true_and, Bool.false_and, Bool.not_true, Bool.not_false, Bool.false_eq_true, List.map_cons, List.map_nil, decide_eq_true_eq, Nat.reduceEqDiff])
/-! ### rows -/
structure Row where
  first : Int
  left : List (List (List Nat))
  mid : List (List (List Nat))
  right : List (List (List Nat))
abbrev lotD (l : List (List Nat)) : D := .tup (l.map .str)
abbrev lotsD (l : List (List (List Nat))) : D := .tup (l.map lotD)
abbrev rowD (r : Row) : D := .tup [.int r.first, lotsD r.left, lotsD r.mid, lotsD r.right]
def okLots (l : List (List (List Nat))) : Prop := ∀ lot ∈ l, ∀ w ∈ lot, okS w = true
structure WfR (r : Row) : Prop where
  l1 : 1 ≤ r.left.length
  r1 : 1 ≤ r.right.length
  ll : r.left.length ≤ 60
  ml : r.mid.length ≤ 100000
  rl : r.right.length ≤ 60
  okl : okLots r.left
  okm : okLots r.mid
  okr : okLots r.right
section
variable {d : Nat} {μ : Store} {Q : Nat → D → Store → Prop} {X : D → Store → Prop} {i k p m : Nat} {ws : List (List Nat)}
end
end Law

set_option autoImplicit false
set_option linter.all false
set_option maxRecDepth 10000
namespace Law
open Pv
section
theorem filter_less {m : Nat} {ms : List Nat} (h : m ∉ ms) : ∀ l : List Nat, m ∈ l → (l.filter fun x => decide (x ∉ ms ++ [m])).length < (l.filter fun x => decide (x ∉ ms)).length := by
  have le : ∀ l : List Nat, (l.filter fun x => decide (x ∉ ms ++ [m])).length ≤ (l.filter fun x => decide (x ∉ ms)).length := by
    intro l
    induction l with
    | nil => exact Nat.le_refl _
    | cons x r ih =>
      rw [List.filter_cons, List.filter_cons]
      by_cases h1 : x ∈ ms
      · simp [h1]; simpa using ih
      · by_cases h2 : x = m
        · subst h2; simp [h1]; have := ih; simp at this; omega
        · simp [h1, h2]; simpa using ih
  intro l
  induction l with
  | nil => intro h; cases h
  | cons x r ih =>
    intro hm
    rw [List.filter_cons, List.filter_cons]
    by_cases h2 : x = m
    · subst h2; simp [h]; have := le r; simp at this; omega
    · have hm' : m ∈ r := by
        rcases List.mem_cons.mp hm with e | e
        · exact absurd e.symm h2
        · exact e
      by_cases h1 : x ∈ ms
      · simp [h1]; simpa using ih hm'
      · simp [h1, h2]; simpa using ih hm'
def unmet (k : Nat) (ms : List Nat) : Nat := ((List.range k).filter fun m => decide (m ∉ ms)).length
theorem unmet_less {m k : Nat} {ms : List Nat} (h : m ∉ ms) (hk : m < k) : unmet k (ms ++ [m]) < unmet k ms := filter_less h _ (List.mem_range.mpr hk)
theorem pigeon_go {k : Nat} : ∀ (l acc : List Nat), (acc ++ l).Nodup → (∀ x ∈ l, x < k) → acc.length + unmet k acc ≤ k → (acc ++ l).length ≤ k
  | [], acc, _, _, h => by rw [List.append_nil]; omega
  | m :: r, acc, nd, lt, h => by
    have hm : m ∉ acc := fun z => (List.nodup_append.mp nd).2.2 m z m List.mem_cons_self rfl
    have ul := unmet_less hm (lt m List.mem_cons_self)
    have := pigeon_go r (acc ++ [m]) (by simpa using nd) (fun x hx => lt x (List.mem_cons_of_mem _ hx)) (by simp; omega)
    simpa using this
theorem pigeon {k : Nat} {l : List Nat} (nd : l.Nodup) (lt : ∀ x ∈ l, x < k) : l.length ≤ k := by
  have := pigeon_go l [] nd lt (by have := List.length_filter_le (fun m => decide (m ∉ ([] : List Nat))) (List.range k); rw [List.length_range] at this; unfold unmet; simpa using this)
  simpa using this
theorem pigeonI {k : Nat} {l : List Int} (nd : l.Nodup) (lt : ∀ x ∈ l, 0 ≤ x ∧ x < (k : Int)) : l.length ≤ k := by
  have := pigeon (k := k) (l := l.map Int.toNat) (by
    refine List.pairwise_map.mpr (nd.imp_of_mem fun {a b} ha hb ne e => ?_)
    have := lt a ha; have := lt b hb
    exact ne (by omega)) (fun x hx => by
    obtain ⟨y, hy, rfl⟩ := List.mem_map.mp hx
    have := lt y hy
    omega)
  simpa using this
inductive Rch (sh : List Ln) : Nat → Nat → Prop where
  | refl (k : Nat) : Rch sh k k
  | step {k p m : Nat} : Rch sh k p → m ∈ memAt sh p → Rch sh k m
end
section
variable {sh : List Ln} {a b c k m p x : Nat} {w : List Nat}
theorem Rch.trans (h : Rch sh a b) (q : Rch sh b c) : Rch sh a c := by
  induction q with
  | refl => exact h
  | step _ hm ih => exact .step ih hm
theorem Rch.head (hp : p ∈ memAt sh k) (h : Rch sh p m) : Rch sh k m := Rch.trans (.step (.refl k) hp) h
theorem Rch.hd (h : Rch sh k m) : m = k ∨ ∃ p ∈ memAt sh k, Rch sh p m := by
  induction h with
  | refl => exact .inl rfl
  | @step q m h hm ih =>
    rcases ih with rfl | ⟨p, hp, hq⟩
    · exact .inr ⟨m, hm, .refl _⟩
    · exact .inr ⟨p, hp, .step hq hm⟩
theorem Rch.le (wf : Wf sh) (h : Rch sh k m) : m ≤ k := by
  induction h with
  | refl => exact Nat.le_refl _
  | step h hm ih => have := (memAt_lt wf hm).1; omega
theorem Rch.lt (wf : Wf sh) (hk : k < sh.length) (h : Rch sh k m) : m < sh.length := Nat.lt_of_le_of_lt (h.le wf) hk
def rb (sh : List Ln) : Nat → Nat → Nat → Bool
  | 0, _, _ => false
  | n + 1, k, x => k == x || (memAt sh k).any fun p => rb sh n p x
theorem rb_ok (wf : Wf sh) : ∀ n k, k < n → (rb sh n k x = true ↔ Rch sh k x)
  | 0, k, h => absurd h (Nat.not_lt_zero _)
  | n + 1, k, h => by
    unfold rb
    rw [Bool.or_eq_true, beq_iff_eq, List.any_eq_true]
    constructor
    · rintro (rfl | ⟨p, hp, hr⟩)
      · exact .refl _
      · have := (memAt_lt wf hp).1
        exact Rch.head hp ((rb_ok wf n p (by omega)).mp hr)
    · intro hr
      rcases hr.hd with rfl | ⟨p, hp, hr⟩
      · exact .inl rfl
      · have := (memAt_lt wf hp).1
        exact .inr ⟨p, hp, (rb_ok wf n p (by omega)).mpr hr⟩
def ND (sh : List Ln) (k : Nat) : List Nat := (List.range (k + 1)).filter fun x => rb sh (k + 1) k x
theorem mem_ND (wf : Wf sh) : x ∈ ND sh k ↔ Rch sh k x := by
  unfold ND
  rw [List.mem_filter, List.mem_range, rb_ok wf (k + 1) k (Nat.lt_succ_self k)]
  exact ⟨fun h => h.2, fun h => ⟨Nat.lt_succ_of_le (h.le wf), h⟩⟩
theorem ND_pw : (ND sh k).Pairwise (· < ·) := List.Pairwise.filter _ List.pairwise_lt_range
theorem ND_len : (ND sh k).length ≤ k + 1 := by
  have := List.length_filter_le (fun x => rb sh (k + 1) k x) (List.range (k + 1))
  rw [List.length_range] at this
  exact this
theorem ND_uniq {l : List Int} (wf : Wf sh) (d : l.Nodup) (h : ∀ x, x ∈ l ↔ ∃ m, Rch sh k m ∧ x = (m : Int)) : sortI l = cI (ND sh k) := by
  have pw : (cI (ND sh k)).Pairwise (· < ·) := List.pairwise_map.mpr (ND_pw.imp fun h => by omega)
  have nd : (cI (ND sh k)).Nodup := pw.imp fun h => by omega
  refine (sortI_uniq ?_ (pw.imp fun h => by omega)).symm
  refine (List.perm_ext_iff_of_nodup nd d).mpr fun x => ?_
  rw [h x, List.mem_map]
  exact ⟨fun ⟨m, hm, e⟩ => ⟨m, (mem_ND wf).mp hm, e.symm⟩, fun ⟨m, hm, e⟩ => ⟨m, (mem_ND wf).mpr hm, e.symm⟩⟩
end
section
variable {d : Nat} {μ : Store} {Q : Nat → D → Store → Prop} {X : D → Store → Prop} {sh : List Ln} {l : Ln} {i k p m : Nat} {w : List Nat}
abbrev lN (l : List Nat) : D := .lst (iD l)
theorem iD_cI (l : List Nat) : (cI l).map D.int = iD l := by simp
structure MtL (sh : List Ln) (a n : Nat) (ms : List Nat) : Prop where
  here : a ∈ ms
  rch : ∀ x ∈ ms, Rch sh a x
  clo : ∀ p ∈ ms, a < p + n → ∀ m ∈ memAt sh p, m ∈ ms
  len : ms.length ≤ 1 + 2 * n
theorem MtL.start {a : Nat} : MtL sh a 0 [a] := ⟨by simp, fun x hx => by rw [List.mem_singleton] at hx; subst hx; exact .refl _, fun p hp h => by
  rw [List.mem_singleton] at hp; omega, by simp⟩
theorem MtL.all {a : Nat} {ms : List Nat} (h : MtL sh a (a + 1) ms) (m : Nat) : m ∈ ms ↔ Rch sh a m := by
  refine ⟨h.rch m, fun hm => ?_⟩
  induction hm with
  | refl => exact h.here
  | step _ hm ih => exact h.clo _ ih (by omega) _ hm
theorem MtL.skip {a n : Nat} {ms : List Nat} (h : MtL sh a n ms) (hc : a - n ∉ ms) (hn : n ≤ a) : MtL sh a (n + 1) ms := ⟨h.here, h.rch, fun p hp hl m hm => by
  by_cases e : a < p + n
  · exact h.clo p hp e m hm
  · have : p = a - n := by omega
    subst this
    exact absurd hp hc, by have := h.len; omega⟩
theorem mem_len (wf : Wf sh) : (memAt sh k).length ≤ 2 := by
  unfold memAt
  cases e : sh[k]? with
  | none => simp
  | some l =>
    have := wf k l e
    cases l with
    | letter s => simp [Ln.mem]
    | yes => simp [Ln.mem]
    | op w ms => exact this.2.1
theorem MtL.next (wf : Wf sh) {a n : Nat} {ms : List Nat} (h : MtL sh a n ms) (hc : a - n ∈ ms) (hn : n ≤ a) : MtL sh a (n + 1) (ms ++ (memAt sh (a - n)).filter fun m => decide (m ∉ ms)) := by
  have mm : ∀ x, x ∈ (memAt sh (a - n)).filter (fun m => decide (m ∉ ms)) ↔ x ∈ memAt sh (a - n) ∧ x ∉ ms := fun x => by rw [List.mem_filter, decide_eq_true_eq]
  refine ⟨List.mem_append_left _ h.here, fun x hx => ?_, fun p hp hl m hm => ?_, ?_⟩
  · rcases List.mem_append.mp hx with hx | hx
    · exact h.rch x hx
    · exact .step (h.rch _ hc) ((mm x).mp hx).1
  · rcases List.mem_append.mp hp with hp | hp
    · by_cases e : a < p + n
      · exact List.mem_append_left _ (h.clo p hp e m hm)
      · have : p = a - n := by omega
        subst this
        by_cases hin : m ∈ ms
        · exact List.mem_append_left _ hin
        · exact List.mem_append_right _ ((mm m).mpr ⟨hm, hin⟩)
    · have := (memAt_lt wf ((mm p).mp hp).1).1
      omega
  · have h1 := List.length_filter_le (fun m => decide (m ∉ ms)) (memAt sh (a - n))
    have h2 := mem_len wf (k := a - n)
    have h3 := h.len
    rw [List.length_append]; omega
theorem any_iD {m : Nat} {l : List Nat} : ((iD l).any fun x => pyEq x (.int (m : Int))) = decide (m ∈ l) := by
  induction l with
  | nil => rfl
  | cons x r ih =>
    show (((x : Int) == (m : Int)) || (iD r).any fun x => pyEq x (.int (m : Int))) = _
    rw [ih]
    by_cases h : x = m
    · subst h; simp
    · have h2 : ¬ (x : Int) = (m : Int) := by omega
      have h3 : ¬ m = x := fun e => h e.symm
      simp [h2, h3]
theorem sset_ND (wf : Wf sh) (hk : k < sh.length) (hs : sh.length ≤ 63) {acc : List Nat} (h : ∀ x, x ∈ acc ↔ Rch sh k x) (hl : acc.length ≤ 2 * k + 3) {R : D → Prop} (post : R (lN (ND sh k))) : ssetP (lN acc) R := by
  refine ⟨_, cI acc, rfl, ?_, ?_, ?_, ?_⟩
  · rw [← iD_cI]; exact intsOf_map _
  · rw [List.length_map]; omega
  · have := pigeonI (k := k + 1) (dedupI_nodup (cI acc)) fun x hx => by
      rw [mem_dedupI, List.mem_map] at hx
      obtain ⟨m, hm, rfl⟩ := hx
      have := ((h m).mp hm).le wf
      omega
    omega
  · rw [ND_uniq wf (dedupI_nodup _) fun x => by
      rw [mem_dedupI, List.mem_map]
      exact ⟨fun ⟨m, hm, e⟩ => ⟨m, (h m).mp hm, e.symm⟩, fun ⟨m, hm, e⟩ => ⟨m, (h m).mpr hm, e.symm⟩⟩, iD_cI]
    exact post
def Ln.ren (f : Nat → Nat) : Ln → Ln
  | .op w ms => .op w (ms.map f)
  | l => l
def part (sh : List Ln) (k : Nat) : List Ln := (ND sh k).map fun x => (lineAt sh x).ren fun n => (ND sh k).idxOf n
theorem mem_line : (lineAt sh m).mem = memAt sh m := by
  unfold lineAt memAt
  cases sh[m]? <;> rfl
theorem idx_less {l : List Nat} (pw : l.Pairwise (· < ·)) {x y i : Nat} (hi : l[i]? = some x) (hy : y ∈ l) (h : y < x) : l.idxOf y < i := by
  obtain ⟨hil, rfl⟩ := List.getElem?_eq_some_iff.mp hi
  have hj := List.idxOf_lt_length_of_mem hy
  have ej := List.getElem_idxOf hj
  rcases Nat.lt_or_ge (l.idxOf y) i with h1 | h1
  · exact h1
  · exfalso
    rcases Nat.lt_or_ge i (l.idxOf y) with h2 | h2
    · have := List.pairwise_iff_getElem.mp pw i (l.idxOf y) hil hj h2
      omega
    · have : i = l.idxOf y := by omega
      subst this
      omega
theorem part_wf (wf : Wf sh) : Wf (part sh k) := fun i l hl => by
  unfold part at hl
  rw [List.getElem?_map] at hl
  cases e : (ND sh k)[i]? with
  | none => rw [e] at hl; cases hl
  | some x =>
    rw [e] at hl
    cases hl
    have hx : Rch sh k x := (mem_ND wf).mp (List.mem_of_getElem? e)
    have hmem : ∀ n ∈ (lineAt sh x).mem, (ND sh k).idxOf n < i := fun n hn => by
      rw [mem_line] at hn
      exact idx_less ND_pw e ((mem_ND wf).mpr (.step hx hn)) (memAt_lt wf hn).1
    show WfL i ((lineAt sh x).ren fun n => (ND sh k).idxOf n)
    cases e2 : sh[x]? with
    | none => rw [show lineAt sh x = .yes by unfold lineAt; rw [e2]]; trivial
    | some y =>
      rw [line_at e2] at hmem ⊢
      have := wf x y e2
      cases y with
      | letter s => exact this
      | yes => trivial
      | op w ms =>
        refine ⟨this.1, by rw [List.length_map]; exact this.2.1, fun m hm => ?_, by rw [List.length_map]; exact this.2.2.2⟩
        obtain ⟨n, hn, rfl⟩ := List.mem_map.mp hm
        exact hmem n hn
theorem part_len : (part sh k).length = (ND sh k).length := List.length_map ..
theorem part_pos (wf : Wf sh) : 1 ≤ (part sh k).length := by
  rw [part_len]
  exact List.length_pos_of_mem ((mem_ND wf).mpr (.refl k))
theorem find_iD {l : List Nat} {n : Nat} (h : n ∈ l) : (iD l).findIdx? (fun x => pyEq x (.int (n : Int))) = some (l.idxOf n) := by
  rw [List.findIdx?_map]
  have : (fun x => pyEq x (.int (n : Int))) ∘ (fun (m : Nat) => D.int (m : Int)) = fun m => m == n := by
    funext m
    show ((m : Int) == (n : Int)) = (m == n)
    rw [Bool.eq_iff_iff, beq_iff_eq, beq_iff_eq]
    omega
  rw [this]
  have hj := List.idxOf_lt_length_of_mem h
  rw [List.findIdx?_eq_some_iff_getElem]
  refine ⟨hj, by rw [List.getElem_idxOf hj]; exact beq_self_eq_true n, fun j hj2 => ?_⟩
  have := List.not_of_lt_findIdx (p := fun m => m == n) (xs := l) hj2
  simpa using this
end
end Law

set_option autoImplicit false
set_option linter.all false
set_option maxRecDepth 10000
set_option maxHeartbeats 1000000
namespace Law
open Pv
variable {sh S S' : List Ln} {k n x y k0 : Nat} {φ : Nat → Nat}
theorem mxI_mem : ∀ {ns : List Int}, ns ≠ [] → maxI ns ∈ ns
  | [], h => absurd rfl h
  | [x], _ => by
    show (if ([] : List Int) = [] then x else _) ∈ [x]
    rw [if_pos rfl]; exact List.mem_cons_self
  | x :: y :: r, _ => by
    show (if (y :: r) = [] then x else if maxI (y :: r) > x then maxI (y :: r) else x) ∈ _
    rw [if_neg (by simp)]
    split
    · exact List.mem_cons_of_mem _ (mxI_mem (by simp))
    · exact List.mem_cons_self
theorem mxI_ge : ∀ {ns : List Int} {y : Int}, y ∈ ns → y ≤ maxI ns
  | [], _, h => nomatch h
  | [x], y, h => by
    rw [List.mem_singleton.mp h]
    show x ≤ (if ([] : List Int) = [] then x else _)
    rw [if_pos rfl]; omega
  | x :: z :: r, y, h => by
    show y ≤ (if (z :: r) = [] then x else if maxI (z :: r) > x then maxI (z :: r) else x)
    rw [if_neg (by simp)]
    rcases List.mem_cons.mp h with rfl | h
    · split <;> omega
    · have := mxI_ge h
      split <;> omega
/-! ### the turns of a line: looks within looks, of the other kind -/
def lkA (sh : List Ln) (m : Nat) : Bool := wordAt sh m == kUntil || wordAt sh m == kSince
def ne (sh : List Ln) (n k : Nat) : Int := if wordAt sh n = wordAt sh k then 0 else 1
theorem ne_pos : 0 ≤ ne sh n k := by unfold ne; split <;> omega
theorem ne_tri {a b c : Nat} : ne sh a c ≤ ne sh a b + ne sh b c := by
  unfold ne
  by_cases h1 : wordAt sh a = wordAt sh b
  · by_cases h2 : wordAt sh b = wordAt sh c
    · rw [if_pos h1, if_pos h2, if_pos (h1.trans h2)]; omega
    · rw [if_pos h1, if_neg h2, if_neg (by rw [h1]; exact h2)]; omega
  · rw [if_neg h1]
    split <;> split <;> omega
def Tf (sh : List Ln) : Nat → Nat → Int
  | 0, _ => 0
  | f + 1, k => if lkA sh k = true then maxI (0 :: ((ND sh k).filter fun n => decide (n ≠ k) && lkA sh n).map fun n => Tf sh f n + ne sh n k) else 0
def Tn (sh : List Ln) (k : Nat) : Int := Tf sh (k + 1) k
theorem Tf_eq (wf : Wf sh) : ∀ f g k, k < f → k < g → Tf sh f k = Tf sh g k
  | 0, _, _, h, _ => absurd h (Nat.not_lt_zero _)
  | _, 0, _, _, h => absurd h (Nat.not_lt_zero _)
  | f + 1, g + 1, k, h1, h2 => by
    unfold Tf
    split
    · congr 2
      refine List.map_congr_left fun n hn => ?_
      obtain ⟨h3, h4⟩ := List.mem_filter.mp hn
      rw [Bool.and_eq_true, decide_eq_true_iff] at h4
      have h5 := ((mem_ND wf).mp h3).le wf
      rw [Tf_eq wf f g n (by omega) (by omega)]
    · rfl
theorem Tn_eq (wf : Wf sh) (hl : lkA sh k = true) : Tn sh k = maxI (0 :: ((ND sh k).filter fun n => decide (n ≠ k) && lkA sh n).map fun n => Tn sh n + ne sh n k) := by
  show Tf sh (k + 1) k = _
  unfold Tf
  rw [if_pos hl]
  congr 2
  refine List.map_congr_left fun n hn => ?_
  obtain ⟨h3, h4⟩ := List.mem_filter.mp hn
  rw [Bool.and_eq_true, decide_eq_true_iff] at h4
  have h5 := ((mem_ND wf).mp h3).le wf
  unfold Tn
  rw [Tf_eq wf k (n + 1) n (by omega) (by omega)]
theorem Tn_ge (wf : Wf sh) (hl : lkA sh k = true) (hn : lkA sh n = true) (r : Rch sh k n) (h : n ≠ k) : Tn sh n + ne sh n k ≤ Tn sh k := by
  rw [Tn_eq wf hl]
  refine mxI_ge (List.mem_cons_of_mem _ (List.mem_map.mpr ⟨n, List.mem_filter.mpr ⟨(mem_ND wf).mpr r, ?_⟩, rfl⟩))
  rw [Bool.and_eq_true, decide_eq_true_iff]
  exact ⟨h, hn⟩
theorem Tn_ex (wf : Wf sh) (hl : lkA sh k = true) : Tn sh k = 0 ∨ ∃ n, lkA sh n = true ∧ Rch sh k n ∧ n ≠ k ∧ Tn sh k = Tn sh n + ne sh n k := by
  have h := mxI_mem (ns := 0 :: ((ND sh k).filter fun n => decide (n ≠ k) && lkA sh n).map fun n => Tn sh n + ne sh n k) (by simp)
  rw [← Tn_eq wf hl] at h
  rcases List.mem_cons.mp h with h | h
  · exact .inl h
  · obtain ⟨n, hn, e⟩ := List.mem_map.mp h
    obtain ⟨h3, h4⟩ := List.mem_filter.mp hn
    rw [Bool.and_eq_true, decide_eq_true_iff] at h4
    exact .inr ⟨n, h4.2, (mem_ND wf).mp h3, h4.1, e.symm⟩
theorem Tn_pos (wf : Wf sh) : 0 ≤ Tn sh k := by
  by_cases hl : lkA sh k = true
  · rw [Tn_eq wf hl]
    exact mxI_ge List.mem_cons_self
  · unfold Tn Tf
    rw [if_neg hl]; omega
theorem Tn_le (wf : Wf sh) : ∀ k, Tn sh k ≤ k := by
  intro k
  induction k using Nat.strongRecOn with
  | _ k ih =>
    by_cases hl : lkA sh k = true
    · rcases Tn_ex wf hl with h | ⟨n, h1, h2, h3, h4⟩
      · rw [h]; omega
      · have h5 := h2.le wf
        have h6 := ih n (by omega)
        have h7 : ne sh n k ≤ 1 := by unfold ne; split <;> omega
        omega
    · unfold Tn Tf
      rw [if_neg hl]; omega
/-- the turns of what a line needs -/
def TR (sh : List Ln) (k : Nat) : Int := maxI (0 :: ((ND sh k).filter (lkA sh)).map (Tn sh))
theorem TR_ge (wf : Wf sh) (hn : lkA sh n = true) (r : Rch sh k n) : Tn sh n ≤ TR sh k :=
  mxI_ge (List.mem_cons_of_mem _ (List.mem_map.mpr ⟨n, List.mem_filter.mpr ⟨(mem_ND wf).mpr r, hn⟩, rfl⟩))
theorem TR_pos : 0 ≤ TR sh k := mxI_ge List.mem_cons_self
theorem TR_ex (wf : Wf sh) : TR sh k = 0 ∨ ∃ n, lkA sh n = true ∧ Rch sh k n ∧ TR sh k = Tn sh n := by
  have h := mxI_mem (ns := 0 :: ((ND sh k).filter (lkA sh)).map (Tn sh)) (by simp)
  rcases List.mem_cons.mp h with h | h
  · exact .inl h
  · obtain ⟨n, hn, e⟩ := List.mem_map.mp h
    obtain ⟨h3, h4⟩ := List.mem_filter.mp hn
    exact .inr ⟨n, h4, (mem_ND wf).mp h3, e.symm⟩
theorem TR_is (wf : Wf sh) {v : Int} (h1 : ∀ n, lkA sh n = true → Rch sh k n → Tn sh n ≤ v) (h2 : v = 0 ∨ ∃ n, lkA sh n = true ∧ Rch sh k n ∧ v ≤ Tn sh n) : v = TR sh k ∨ v < 0 := by
  have p : 0 ≤ TR sh k := TR_pos
  have a : TR sh k ≤ max v 0 := by
    rcases TR_ex wf (k := k) with h | ⟨n, h3, h4, h5⟩
    · omega
    · have := h1 n h3 h4; omega
  have b : v ≤ TR sh k := by
    rcases h2 with h | ⟨n, h3, h4, h5⟩
    · omega
    · have := TR_ge wf h3 h4; omega
  omega
theorem TR_le (wf : Wf sh) : TR sh k ≤ k := by
  rcases TR_ex wf (k := k) with h | ⟨n, h3, h4, h5⟩
  · omega
  · have h6 := Tn_le wf n
    have h7 := h4.le wf
    omega
/-! ### sheets alike -/
structure Mor (S S' : List Ln) (φ : Nat → Nat) (k0 : Nat) : Prop where
  wf : Wf S
  wf' : Wf S'
  lk : ∀ x, Rch S k0 x → lkA S' (φ x) = lkA S x
  mem : ∀ x, Rch S k0 x → memAt S' (φ x) = (memAt S x).map φ
  ne : ∀ x y, Rch S k0 x → Rch S k0 y → lkA S x = true → lkA S y = true → (wordAt S' (φ x) = wordAt S' (φ y) ↔ wordAt S x = wordAt S y)
theorem Mor.to (M : Mor S S' φ k0) (hk : Rch S k0 k) (h : Rch S k x) : Rch S' (φ k) (φ x) := by
  induction h with
  | refl => exact .refl _
  | step r hm ih => exact .step ih (by rw [M.mem _ (hk.trans r)]; exact List.mem_map_of_mem hm)
theorem Mor.of (M : Mor S S' φ k0) (hk : Rch S k0 k) (h : Rch S' (φ k) y) : ∃ x, Rch S k x ∧ φ x = y := by
  induction h with
  | refl => exact ⟨k, .refl _, rfl⟩
  | step r hm ih =>
    obtain ⟨p, hp, rfl⟩ := ih
    rw [M.mem _ (hk.trans hp)] at hm
    obtain ⟨z, hz, rfl⟩ := List.mem_map.mp hm
    exact ⟨z, .step hp hz, rfl⟩
theorem Mor.lt (M : Mor S S' φ k0) (hk : Rch S k0 k) (h : Rch S k x) (hx : x ≠ k) : φ x < φ k := by
  rcases h.hd with e | ⟨p, hp, hr⟩
  · exact absurd e hx
  · have h1 : φ p ∈ memAt S' (φ k) := by rw [M.mem _ hk]; exact List.mem_map_of_mem hp
    have h2 := (memAt_lt M.wf' h1).1
    have h3 := (M.to (hk.trans (.step (.refl _) hp)) hr).le M.wf'
    omega
theorem Mor.nes (M : Mor S S' φ k0) (hx : Rch S k0 x) (hy : Rch S k0 y) (lx : lkA S x = true) (ly : lkA S y = true) : Law.ne S' (φ x) (φ y) = Law.ne S x y := by
  unfold Law.ne
  have := M.ne x y hx hy lx ly
  by_cases h : wordAt S x = wordAt S y
  · rw [if_pos h, if_pos (this.mpr h)]
  · rw [if_neg h, if_neg fun q => h (this.mp q)]
theorem Mor.T (M : Mor S S' φ k0) : ∀ k, Rch S k0 k → lkA S k = true → Tn S' (φ k) = Tn S k := by
  intro k
  induction k using Nat.strongRecOn with
  | _ k ih =>
    intro hk hl
    have hl' : lkA S' (φ k) = true := (M.lk k hk).trans hl
    have p1 : 0 ≤ Tn S k := Tn_pos M.wf
    have p2 : 0 ≤ Tn S' (φ k) := Tn_pos M.wf'
    have a : Tn S' (φ k) ≤ Tn S k := by
      rcases Tn_ex M.wf' hl' with h | ⟨y, h1, h2, h3, h4⟩
      · omega
      · obtain ⟨x, hx, rfl⟩ := M.of hk h2
        have hx0 := hk.trans hx
        have lx : lkA S x = true := (M.lk x hx0).symm.trans h1
        have nx : x ≠ k := fun e => h3 (by rw [e])
        have hle := hx.le M.wf
        rw [h4, ih x (by omega) hx0 lx, M.nes hx0 hk lx hl]
        exact Tn_ge M.wf hl lx hx nx
    have b : Tn S k ≤ Tn S' (φ k) := by
      rcases Tn_ex M.wf hl with h | ⟨x, h1, h2, h3, h4⟩
      · omega
      · have hx0 := hk.trans h2
        have hle := h2.le M.wf
        have hlt := M.lt hk h2 h3
        rw [h4, ← ih x (by omega) hx0 h1, ← M.nes hx0 hk h1 hl]
        exact Tn_ge M.wf' hl' ((M.lk x hx0).trans h1) (M.to hk h2) (by omega)
    omega
theorem Mor.TR (M : Mor S S' φ k0) (hk : Rch S k0 k) : TR S' (φ k) = TR S k := by
  have p1 : 0 ≤ Law.TR S k := TR_pos
  have p2 : 0 ≤ Law.TR S' (φ k) := TR_pos
  have a : Law.TR S' (φ k) ≤ Law.TR S k := by
    rcases TR_ex M.wf' (k := φ k) with h | ⟨y, h1, h2, h3⟩
    · omega
    · obtain ⟨x, hx, rfl⟩ := M.of hk h2
      have hx0 := hk.trans hx
      have lx : lkA S x = true := (M.lk x hx0).symm.trans h1
      rw [h3, M.T x hx0 lx]
      exact TR_ge M.wf lx hx
  have b : Law.TR S k ≤ Law.TR S' (φ k) := by
    rcases TR_ex M.wf (k := k) with h | ⟨x, h1, h2, h3⟩
    · omega
    · have hx0 := hk.trans h2
      rw [h3, ← M.T x hx0 h1]
      exact TR_ge M.wf' ((M.lk x hx0).trans h1) (M.to hk h2)
  omega
theorem TR_step (wf : Wf sh) (hl : lkA sh k = false) : (∀ p ∈ memAt sh k, TR sh p ≤ TR sh k) ∧ (TR sh k = 0 ∨ ∃ p ∈ memAt sh k, TR sh k = TR sh p) := by
  refine ⟨fun p hp => ?_, ?_⟩
  · rcases TR_ex wf (k := p) with h | ⟨n, h1, h2, h3⟩
    · have : 0 ≤ TR sh k := TR_pos
      omega
    · rw [h3]
      exact TR_ge wf h1 (.head hp h2)
  · rcases TR_ex wf (k := k) with h | ⟨n, h1, h2, h3⟩
    · exact .inl h
    · rcases h2.hd with e | ⟨p, hp, hr⟩
      · rw [e] at h1; rw [hl] at h1; cases h1
      · have a := TR_ge wf h1 hr
        have b : TR sh p ≤ TR sh k := by
          rcases TR_ex wf (k := p) with h | ⟨n', h1', h2', h3'⟩
          · have : 0 ≤ TR sh k := TR_pos
            omega
          · rw [h3']
            exact TR_ge wf h1' (.head hp h2')
        exact .inr ⟨p, hp, by omega⟩
theorem Mor.front {t : List Ln} (wf : Wf S) (wf' : Wf (S ++ t)) (hk : k0 < S.length) : Mor S (S ++ t) id k0 := by
  have g : ∀ x, Rch S k0 x → (S ++ t)[x]? = S[x]? := fun x hx => List.getElem?_append_left (hx.lt wf hk)
  refine ⟨wf, wf', fun x hx => ?_, fun x hx => ?_, fun x y hx hy _ _ => ?_⟩
  · show lkA (S ++ t) x = _
    unfold lkA wordAt; rw [g x hx]
  · show memAt (S ++ t) x = _
    unfold memAt; rw [g x hx, List.map_id]
  · show wordAt (S ++ t) x = wordAt (S ++ t) y ↔ _
    unfold wordAt; rw [g x hx, g y hy]
end Law

set_option autoImplicit false
set_option linter.all false
set_option maxRecDepth 10000
set_option maxHeartbeats 1000000
namespace Law
open Pv
variable {sh : List Ln} {k n m : Nat} {b es : List (List Nat × Int)} {w : List Nat} {u v : Int}
/-! ### dicts from words to numbers -/
abbrev kvW (b : List (List Nat × Int)) : List (D × D) := b.map fun q => (D.str q.1, D.int q.2)
def putW (b : List (List Nat × Int)) (w : List Nat) (v : Int) : List (List Nat × Int) := if (b.any fun q => q.1 == w) = true then b.map (fun q => if (q.1 == w) = true then (q.1, v) else q) else b ++ [(w, v)]
def getW (b : List (List Nat × Int)) (w : List Nat) : Option Int := (b.find? fun q => q.1 == w).map (·.2)
theorem dput_W : dput (kvW b) (.str w) (.int v) = kvW (putW b w v) := by
  have e : ((kvW b).any fun q => pyEq q.1 (.str w)) = b.any fun q => q.1 == w := by rw [List.any_map]; rfl
  unfold dput putW
  rw [e]
  split
  · rw [List.map_map]
    show _ = List.map _ (List.map _ b)
    rw [List.map_map]
    refine List.map_congr_left fun q _ => ?_
    show (if (q.1 == w) = true then (D.str q.1, D.int v) else (D.str q.1, D.int q.2)) = (D.str (if (q.1 == w) = true then (q.1, v) else q).1, D.int (if (q.1 == w) = true then (q.1, v) else q).2)
    split <;> rfl
  · simp [kvW]
theorem dget_W : ∀ b : List (List Nat × Int), dget (kvW b) (.str w) = (getW b w).map D.int
  | [] => rfl
  | q :: r => by
    show (if (q.1 == w) = true then some (D.int q.2) else dget (kvW r) (.str w)) = _
    unfold getW
    rw [List.find?_cons]
    by_cases h : (q.1 == w) = true
    · rw [if_pos h, h]; rfl
    · rw [if_neg h, Bool.eq_false_iff.mpr h, dget_W r]; rfl
theorem getD_W : (dget (kvW b) (.str w)).getD (.int 0) = .int ((getW b w).getD 0) := by
  rw [dget_W]
  cases getW b w <;> rfl
theorem key_uniq : ∀ {b : List (List Nat × Int)} {q r : List Nat × Int}, (b.map (·.1)).Nodup → q ∈ b → r ∈ b → q.1 = r.1 → q = r
  | [], q, r, _, h, _, _ => nomatch h
  | x :: t, q, r, nd, hq, hr, e => by
    rw [List.map_cons, List.nodup_cons] at nd
    rcases List.mem_cons.mp hq with h1 | h1
    · rcases List.mem_cons.mp hr with h2 | h2
      · rw [h1, h2]
      · exact absurd (List.mem_map.mpr ⟨r, h2, by rw [← e, h1]⟩) nd.1
    · rcases List.mem_cons.mp hr with h2 | h2
      · exact absurd (List.mem_map.mpr ⟨q, h1, by rw [e, h2]⟩) nd.1
      · exact key_uniq nd.2 h1 h2 e
theorem getW_of (nd : (b.map (·.1)).Nodup) {q : List Nat × Int} (h : q ∈ b) : getW b q.1 = some q.2 := by
  unfold getW
  cases e : b.find? fun r => r.1 == q.1 with
  | none =>
    have := List.find?_eq_none.mp e q h
    exact absurd (beq_self_eq_true _) this
  | some r =>
    have h1 := List.mem_of_find?_eq_some e
    have h2 := List.find?_some e
    rw [key_uniq nd h1 h (eq_of_beq h2)]; rfl
theorem getW_mem {o : Int} (h : getW b w = some o) : (w, o) ∈ b := by
  unfold getW at h
  cases e : b.find? fun r => r.1 == w with
  | none => rw [e] at h; cases h
  | some r =>
    rw [e] at h
    have h1 := List.mem_of_find?_eq_some e
    have h2 : (r.1 == w) = true := List.find?_some (p := fun r : List Nat × Int => r.1 == w) e
    have h2 := eq_of_beq h2
    obtain rfl : r.2 = o := Option.some.inj h
    rw [← h2]; exact h1
theorem any_key : (b.any fun q => q.1 == w) = true ↔ w ∈ b.map (·.1) := by
  rw [List.any_eq_true, List.mem_map]
  exact ⟨fun ⟨q, h, e⟩ => ⟨q, h, eq_of_beq e⟩, fun ⟨q, h, e⟩ => ⟨q, h, by rw [e]; exact beq_self_eq_true _⟩⟩
theorem putW_keys : (putW b w v).map (·.1) = if w ∈ b.map (·.1) then b.map (·.1) else b.map (·.1) ++ [w] := by
  unfold putW
  by_cases h : (b.any fun q => q.1 == w) = true
  · rw [if_pos h, if_pos (any_key.mp h), List.map_map]
    refine List.map_congr_left fun q _ => ?_
    show (if (q.1 == w) = true then (q.1, v) else q).1 = q.1
    split <;> rfl
  · rw [if_neg h, if_neg fun q => h (any_key.mpr q)]; simp
theorem putW_nd (nd : (b.map (·.1)).Nodup) : ((putW b w v).map (·.1)).Nodup := by
  rw [putW_keys]
  split
  · exact nd
  · rename_i h
    exact List.nodup_append.mpr ⟨nd, (by simp), fun x hx y hy e => h (by rw [← List.mem_singleton.mp hy, ← e]; exact hx)⟩
theorem putW_mem {q : List Nat × Int} (h : q ∈ putW b w v) : q = (w, v) ∨ (q ∈ b ∧ q.1 ≠ w) := by
  unfold putW at h
  split at h
  · obtain ⟨r, hr, e⟩ := List.mem_map.mp h
    by_cases c : (r.1 == w) = true
    · rw [if_pos c] at e
      left; rw [← e, eq_of_beq c]
    · rw [if_neg c] at e
      subst e
      exact .inr ⟨hr, fun q => c (by rw [q]; exact beq_self_eq_true _)⟩
  · rename_i hh
    rcases List.mem_append.mp h with h | h
    · exact .inr ⟨h, fun e => hh (List.any_eq_true.mpr ⟨q, h, by rw [e]; exact beq_self_eq_true _⟩)⟩
    · exact .inl (List.mem_singleton.mp h)
theorem putW_new : (w, v) ∈ putW b w v := by
  unfold putW
  split
  · rename_i h
    obtain ⟨q, hq, e⟩ := List.any_eq_true.mp h
    refine List.mem_map.mpr ⟨q, hq, ?_⟩
    rw [if_pos e, eq_of_beq e]
  · exact List.mem_append_right _ (List.mem_singleton_self _)
theorem putW_old {q : List Nat × Int} (h : q ∈ b) (hne : q.1 ≠ w) : q ∈ putW b w v := by
  unfold putW
  split
  · refine List.mem_map.mpr ⟨q, h, ?_⟩
    rw [if_neg fun e => hne (eq_of_beq e)]
  · exact List.mem_append_left _ h
/-! ### what is known of a line's dict -/
def wn (sh : List Ln) (m : Nat) (w : List Nat) : Int := if wordAt sh m = w then 0 else 1
structure Cur (sh : List Ln) (P1 P2 : Nat → Prop) (es b : List (List Nat × Int)) : Prop where
  nd : (b.map (·.1)).Nodup
  i1 : ∀ q ∈ b, ∃ m, P1 m ∧ lkA sh m = true ∧ wordAt sh m = q.1 ∧ Tn sh m = q.2
  i2 : ∀ m, P2 m → lkA sh m = true → ∃ q ∈ b, Tn sh m + wn sh m q.1 ≤ q.2
  i3 : ∀ q ∈ es, ∃ r ∈ b, r.1 = q.1 ∧ q.2 ≤ r.2
abbrev FR (sh : List Ln) (k : Nat) (b : List (List Nat × Int)) : Prop := Cur sh (Rch sh k) (Rch sh k) [] b
theorem Cur.put (wf : Wf sh) {P1 P2 : Nat → Prop} (h : Cur sh P1 P2 es b) (hv : ∃ m, P1 m ∧ lkA sh m = true ∧ wordAt sh m = w ∧ Tn sh m = v) : Cur sh P1 P2 (es ++ [(w, v)]) (putW b w (if v > (getW b w).getD 0 then v else (getW b w).getD 0)) := by
  generalize hu : (if v > (getW b w).getD 0 then v else (getW b w).getD 0) = u
  obtain ⟨m0, hm1, hm2, hm3, hm4⟩ := hv
  have v0 : 0 ≤ v := by rw [← hm4]; exact Tn_pos wf
  have u1 : v ≤ u := by rw [← hu]; split <;> omega
  have old : ∀ q ∈ b, ∃ r ∈ putW b w u, r.1 = q.1 ∧ q.2 ≤ r.2 := fun q hq => by
    by_cases c : q.1 = w
    · refine ⟨(w, u), putW_new, c.symm, ?_⟩
      have := getW_of h.nd hq
      rw [c] at this
      rw [← hu, this]
      show q.2 ≤ if v > q.2 then v else q.2
      split <;> omega
    · exact ⟨q, putW_old hq c, rfl, Int.le_refl _⟩
  refine ⟨putW_nd h.nd, fun q hq => ?_, fun m hm hl => ?_, fun q hq => ?_⟩
  · rcases putW_mem hq with rfl | ⟨hq, _⟩
    · by_cases c : v > (getW b w).getD 0
      · rw [if_pos c] at hu
        exact ⟨m0, hm1, hm2, hm3, by rw [hm4]; exact hu⟩
      · rw [if_neg c] at hu
        cases hg : getW b w with
        | none =>
          rw [hg] at hu c
          have c : ¬ v > 0 := c
          have hu : (0 : Int) = u := hu
          exact ⟨m0, hm1, hm2, hm3, by rw [hm4]; show v = u; omega⟩
        | some o =>
          rw [hg] at hu
          obtain ⟨m, h1, h2, h3, h4⟩ := h.i1 _ (getW_mem hg)
          exact ⟨m, h1, h2, h3, h4.trans hu⟩
    · exact h.i1 q hq
  · obtain ⟨q, hq, e⟩ := h.i2 m hm hl
    obtain ⟨r, hr, e1, e2⟩ := old q hq
    exact ⟨r, hr, by rw [e1]; omega⟩
  · rcases List.mem_append.mp hq with hq | hq
    · obtain ⟨r, hr, e1, e2⟩ := h.i3 q hq
      obtain ⟨r', hr', e3, e4⟩ := old r hr
      exact ⟨r', hr', e3.trans e1, by omega⟩
    · rw [List.mem_singleton.mp hq]
      exact ⟨(w, u), putW_new, rfl, u1⟩
theorem Cur.done {P1 P2 : Nat → Prop} {fr : List (List Nat × Int)} {p : Nat} (h : Cur sh P1 P2 fr b) (f : FR sh p fr) : Cur sh P1 (fun m => P2 m ∨ Rch sh p m) [] b :=
  ⟨h.nd, h.i1, fun m hm hl => by
    rcases hm with hm | hm
    · exact h.i2 m hm hl
    · obtain ⟨q, hq, e⟩ := f.i2 m hm hl
      obtain ⟨r, hr, e1, e2⟩ := h.i3 q hq
      exact ⟨r, hr, by rw [e1]; omega⟩, fun q hq => nomatch hq⟩
theorem Cur.weak {P1 P2 P1' P2' : Nat → Prop} (h : Cur sh P1 P2 es b) (h1 : ∀ m, P1 m → P1' m) (h2 : ∀ m, P2' m → P2 m) : Cur sh P1' P2' [] b :=
  ⟨h.nd, fun q hq => let ⟨m, a, r⟩ := h.i1 q hq; ⟨m, h1 m a, r⟩, fun m hm => h.i2 m (h2 m hm), fun q hq => nomatch hq⟩
theorem lkA_word (h : lkA sh m = true) : wordAt sh m = kUntil ∨ wordAt sh m = kSince := by
  unfold lkA at h
  rw [Bool.or_eq_true] at h
  exact h.imp eq_of_beq eq_of_beq
theorem Cur.len {P1 P2 : Nat → Prop} (h : Cur sh P1 P2 es b) : b.length ≤ 2 := by
  have ks : ∀ q ∈ b, q.1 = kUntil ∨ q.1 = kSince := fun q hq => by
    obtain ⟨m, _, h2, h3, _⟩ := h.i1 q hq
    rw [← h3]; exact lkA_word h2
  have nd := h.nd
  match b, ks, nd with
  | [], _, _ => exact Nat.zero_le _
  | [_], _, _ => exact Nat.le_succ _
  | [_, _], _, _ => exact Nat.le_refl _
  | x :: y :: z :: r, ks, nd =>
    exfalso
    simp only [List.map_cons, List.nodup_cons, List.mem_cons, not_or] at nd
    obtain ⟨⟨h1, h2, _⟩, ⟨h3, _⟩, _⟩ := nd
    have a := ks x (by simp)
    have b := ks y (by simp)
    have c := ks z (by simp)
    rcases a with a | a <;> rcases b with b | b <;> rcases c with c | c <;> first
      | exact h1 (a.trans b.symm)
      | exact h2 (a.trans c.symm)
      | exact h3 (b.trans c.symm)
/-- the dict of a look -/
theorem FR.look (wf : Wf sh) (hl : lkA sh k = true) : FR sh k [(wordAt sh k, Tn sh k)] := by
  refine ⟨(by simp), fun q hq => ?_, fun m hm hm2 => ?_, fun q hq => nomatch hq⟩
  · rw [List.mem_singleton.mp hq]
    exact ⟨k, .refl k, hl, rfl, rfl⟩
  · refine ⟨_, List.mem_singleton_self _, ?_⟩
    by_cases c : m = k
    · rw [c]; show Tn sh k + wn sh k (wordAt sh k) ≤ Tn sh k
      unfold wn; rw [if_pos rfl]; omega
    · exact Tn_ge wf hl hm2 hm c
/-- a look's number, from its members' dict -/
theorem Cur.num (wf : Wf sh) (hl : lkA sh k = true) (h : Cur sh (fun m => ∃ p ∈ memAt sh k, Rch sh p m) (fun m => ∃ p ∈ memAt sh k, Rch sh p m) [] b) :
    maxI (0 :: b.map fun q => q.2 + (if q.1 = wordAt sh k then 0 else 1)) = Tn sh k := by
  generalize hN : (0 :: b.map fun q => q.2 + (if q.1 = wordAt sh k then (0 : Int) else 1)) = ns
  have hne : ns ≠ [] := by rw [← hN]; simp
  have a : maxI ns ≤ Tn sh k := by
    have hm := mxI_mem hne
    generalize maxI ns = v at hm
    rw [← hN] at hm
    rcases List.mem_cons.mp hm with rfl | hm
    · exact Tn_pos wf
    · obtain ⟨q, hq, rfl⟩ := List.mem_map.mp hm
      obtain ⟨m, ⟨p, hp, hr⟩, h2, h3, h4⟩ := h.i1 q hq
      have hmk : m ≠ k := by
        have h5 := (memAt_lt wf hp).1
        have h6 := hr.le wf
        omega
      have := Tn_ge wf hl h2 (.head hp hr) hmk
      unfold ne at this
      rw [h3, h4] at this
      exact this
  have b' : Tn sh k ≤ maxI ns := by
    rcases Tn_ex wf hl with e | ⟨n, h1, h2, h3, h4⟩
    · rw [e, ← hN]; exact mxI_ge List.mem_cons_self
    · rcases h2.hd with e | ⟨p, hp, hr⟩
      · exact absurd e h3
      · obtain ⟨q, hq, e⟩ := h.i2 n ⟨p, hp, hr⟩ h1
        have g : q.2 + (if q.1 = wordAt sh k then (0 : Int) else 1) ≤ maxI ns := by
          rw [← hN]; exact mxI_ge (List.mem_cons_of_mem _ (List.mem_map.mpr ⟨q, hq, rfl⟩))
        rw [h4]
        unfold wn at e
        unfold ne
        by_cases c1 : wordAt sh n = q.1
        · rw [if_pos c1] at e
          rw [c1]; omega
        · rw [if_neg c1] at e
          split <;> split at g <;> omega
  omega
theorem FR.num (wf : Wf sh) (h : FR sh k b) : maxI (0 :: b.map (·.2)) = TR sh k := by
  generalize hN : (0 :: b.map (·.2)) = ns
  have hne : ns ≠ [] := by rw [← hN]; simp
  have a : maxI ns ≤ TR sh k := by
    have hm := mxI_mem hne
    generalize maxI ns = v at hm
    rw [← hN] at hm
    rcases List.mem_cons.mp hm with rfl | hm
    · exact TR_pos
    · obtain ⟨q, hq, rfl⟩ := List.mem_map.mp hm
      obtain ⟨m, hr, h2, h3, h4⟩ := h.i1 q hq
      rw [← h4]
      exact TR_ge wf h2 hr
  have b' : TR sh k ≤ maxI ns := by
    rcases TR_ex wf (k := k) with e | ⟨n, h1, h2, h3⟩
    · rw [e, ← hN]; exact mxI_ge List.mem_cons_self
    · obtain ⟨q, hq, e⟩ := h.i2 n h2 h1
      have g : q.2 ≤ maxI ns := by
        rw [← hN]; exact mxI_ge (List.mem_cons_of_mem _ (List.mem_map.mpr ⟨q, hq, rfl⟩))
      unfold wn at e
      split at e <;> omega
  omega
/-- the dict of a line that is no look -/
theorem FR.of (hl : lkA sh k = false) (h : Cur sh (fun m => ∃ p ∈ memAt sh k, Rch sh p m) (fun m => ∃ p ∈ memAt sh k, Rch sh p m) [] b) : FR sh k b :=
  ⟨h.nd, fun q hq => let ⟨m, ⟨p, hp, hr⟩, r⟩ := h.i1 q hq; ⟨m, .head hp hr, r⟩, fun m hm hm2 => by
    rcases hm.hd with e | ⟨p, hp, hr⟩
    · rw [e, hl] at hm2; cases hm2
    · exact h.i2 m ⟨p, hp, hr⟩ hm2, fun q hq => nomatch hq⟩
/-! ### the dict of all lines -/
abbrev kvF (l : List (Nat × List (List Nat × Int))) : List (D × D) := l.map fun q => (D.int (q.1 : Int), D.dic (kvW q.2))
theorem dput_F {l : List (Nat × List (List Nat × Int))} (h : k ∉ l.map (·.1)) : dput (kvF l) (.int (k : Int)) (.dic (kvW b)) = kvF (l ++ [(k, b)]) := by
  have e : ((kvF l).any fun q => pyEq q.1 (.int (k : Int))) = false := by
    rw [Bool.eq_false_iff]
    intro q
    obtain ⟨x, hx, e⟩ := List.any_eq_true.mp q
    obtain ⟨y, hy, rfl⟩ := List.mem_map.mp hx
    have e : ((y.1 : Int) == (k : Int)) = true := e
    have := eq_of_beq e
    exact h (List.mem_map.mpr ⟨y, hy, by omega⟩)
  unfold dput
  rw [e, if_neg (by simp)]
  simp [kvF]
theorem dget_F : ∀ {l : List (Nat × List (List Nat × Int))}, k ∈ l.map (·.1) → ∃ q ∈ l, q.1 = k ∧ dget (kvF l) (.int (k : Int)) = some (.dic (kvW q.2))
  | [], h => nomatch h
  | x :: r, h => by
    show ∃ q ∈ x :: r, q.1 = k ∧ (if ((x.1 : Int) == (k : Int)) = true then some (D.dic (kvW x.2)) else dget (kvF r) (.int (k : Int))) = _
    by_cases c : x.1 = k
    · refine ⟨x, List.mem_cons_self, c, ?_⟩
      rw [if_pos (by rw [c]; exact beq_self_eq_true _)]
    · rw [if_neg fun q => c (by have := eq_of_beq q; omega)]
      rw [List.map_cons] at h
      rcases List.mem_cons.mp h with h | h
      · exact absurd h.symm c
      · obtain ⟨q, hq, e1, e2⟩ := dget_F h
        exact ⟨q, List.mem_cons_of_mem _ hq, e1, e2⟩
end Law

set_option autoImplicit false
set_option linter.all false
set_option maxRecDepth 10000
namespace Law
open Pv
local macro_rules | `(tactic| get_elem_tactic_trivial) => `(tactic| simp (maxSteps := 2000000) only [wpE_lit, wpE_var, wpE_glob, wpE_tup, wpE_lst, wpE_dnew, wpE_dict, wpE_lrange, wpE_lrange2, wpE_denum2, wpE_sset, wpE_ssetS, wpE_state, wpE_neg, wpE_bin, wpE_cmp, wpE_chain, wpE_and, wpE_or, wpE_not, wpE_ite, wpE_idx, wpE_slice, wpE_rev, wpE_stepS, wpE_call, wpE_blt, wpE_dget, wpE_dget2, wpE_mut, wpE_mutF, wpE_comp, wpE_dict1, wpE_dcomp, wpE_dvals, wpE_indexOf, wpE_tupS, wpE_lstS, wpE_isInst, wpE_gget, wpE_gget2, wpE_gidx, wpE_gmem, wpE_gcd, wpLS_nil, wpLS_star, wpLS_one, wpI_rngD, wpI_rngL, wpI_zip, wpI_items, wpI_keys, bin_bor, bin_band, bin_shl, bin_shr, blt_sum, blt_all, blt_any, blt_maxL, blt_minL, blt_minP,
  wpL_nil, wpL_cons, wpF_nil, wpF_cons, wpA_nil, wpA_lent, wpA_fz, wpB_one, wpB_cons, wpO_none, wpO_some, wpC_nil, wpC_cons, wpI_seq, wpI_rng, wpI_rng2, wpI_enum, wpP_nil, wpP_cons, wpSs_nil, wpSs_cons, wpS_expr, wpS_assign, wpS_par, wpS_setIdx, wpS_aug, wpS_retN, wpS_ret, wpS_ite, wpS_for, wpS_while, wpS_brk, wpS_cont, wpS_pass,
  giveT_var, giveT_tup, giveL_nil, giveL_cons, give_fz, give_fresh, give_bor, esc_fz, esc_fresh, esc_bor, escI_fz, escI_fresh, escI_bor, kept_fz, kept_fresh, kept_bor, retK_fz, retK_fresh, retK_bor,
  List.getElem?_cons_zero, List.getElem?_cons_succ, List.getElem?_nil, List.set_cons_zero, List.set_cons_succ, List.foldl_cons, List.foldl_nil, List.zip_cons_cons, List.zip_nil_left, List.zip_nil_right, List.zipWith_cons_cons, List.zipWith_nil_left, List.zipWith_nil_right, List.length_cons, List.length_nil, List.replicate, List.cons_append, List.nil_append, List.set_nil, wipeE, back, back,
  Option.some.injEq, Prod.mk.injEq, exists_and_left, exists_eq_left', exists_eq_right', exists_eq', and_true, true_and, and_assoc, if_true, if_false, ↓reduceIte, reduceCtorEq, false_and, and_false, exists_false, or_false, false_or, D.int.injEq, D.str.injEq, D.tup.injEq, D.lst.injEq, D.dic.injEq, D.ref.injEq, D.bl.injEq, List.cons.injEq,
  getF, setF, List.find?_cons, List.find?_nil, Option.map_some, Option.map_none, tru_bl, tru_int, tru_non, tru_tup, tru_lst, tru_str, bin_add_int, bin_sub_int, bin_mul_int, bin_fdiv_int, bin_mod_int, bin_pow_int, bin_add_str, bin_add_lst, bin_add_tup, bin_mul_lst, bin_mul_tup, cmp_lt_int, cmp_le_int, cmp_gt_int, cmp_ge_int, cmp_lt_str, cmp_le_str, cmp_gt_str, cmp_ge_str, cmp_eq_rep, cmp_ne_rep, cmp_eq_int, cmp_eq_str, cmp_eq_tup, cmp_eq_lst, cmp_eq_bl, cmp_ne_int, cmp_ne_str, cmp_ne_tup, cmp_ne_lst, cmp_ne_bl, cmp_mem, cmp_notMem, mem_tup, mem_lst, mem_dic, idx_tup, idx_lst, idx_str, idx_dic_int, idx_dic_str, idx_ref, isKey_int, isKey_str, blt_len_tup, blt_len_lst, blt_len_dic, blt_len_str, blt_abs, blt_int, blt_int_bl, blt_max, blt_min, blt_list_lst, blt_list_tup, blt_tuple_lst, blt_tuple_tup, blt_repr, blt_sorted, kind_int, kind_str, kind_bl, kind_tup, kind_rep, kind_non, kind_lst, kind_dic, optI_none, optI_some, slice_tup, slice_lst, slice_str, rev_lst, rev_tup, items_tup, items_lst, mut_append, mut_pop, mut_popAt, mut_extend, set_lst, set_dic, Nat.reduceSub, Nat.reduceAdd, nil_beq, eq_self, Nat.reduceBEq, List.cons_beq_cons, List.isEmpty_cons, List.isEmpty_nil, Bool.and_true, Bool.and_false, Bool.true_and, Bool.false_and, Bool.not_true, Bool.not_false, Bool.false_eq_true, List.map_cons, List.map_nil, decide_eq_true_eq, Nat.reduceEqDiff])
/-! ### sheets -/
/-- what line k touches: looked at by steps -/
def tset (sh : List Ln) : Nat → Nat → List Nat
  | 0, _ => []
  | n + 1, k => (memAt sh k).flatMap fun m => if lookAt sh m = true then [m] else tset sh n m
theorem tset_stable {sh : List Ln} (wf : Wf sh) : ∀ (n n' k : Nat), k < n → k < n' → tset sh n k = tset sh n' k
  | 0, _, k, h, _ => absurd h (Nat.not_lt_zero _)
  | _ + 1, 0, k, _, h => absurd h (Nat.not_lt_zero _)
  | n + 1, n' + 1, k, h, h' => by
    unfold tset
    have : ∀ l : List Nat, (∀ m ∈ l, m < k) → (l.flatMap fun m => if lookAt sh m = true then [m] else tset sh n m) = l.flatMap fun m => if lookAt sh m = true then [m] else tset sh n' m := by
      intro l
      induction l with
      | nil => intro _; rfl
      | cons m r ih =>
        intro hl
        rw [List.flatMap_cons, List.flatMap_cons, ih fun x hx => hl x (List.mem_cons_of_mem _ hx)]
        have hm := hl m List.mem_cons_self
        rw [tset_stable wf n n' m (by omega) (by omega)]
    exact this _ fun m hm => (memAt_lt wf hm).1
def T (sh : List Ln) (k : Nat) : List Nat := tset sh (k + 1) k
theorem T_eq {sh : List Ln} (wf : Wf sh) (k : Nat) : T sh k = (memAt sh k).flatMap fun m => if lookAt sh m = true then [m] else T sh m := by
  show tset sh (k + 1) k = _
  have : ∀ l : List Nat, (∀ m ∈ l, m < k) → (l.flatMap fun m => if lookAt sh m = true then [m] else tset sh k m) = l.flatMap fun m => if lookAt sh m = true then [m] else T sh m := by
    intro l
    induction l with
    | nil => intro _; rfl
    | cons m r ih =>
      intro hl
      rw [List.flatMap_cons, List.flatMap_cons, ih fun x hx => hl x (List.mem_cons_of_mem _ hx)]
      have hm := hl m List.mem_cons_self
      rw [show T sh m = tset sh k m from tset_stable wf _ _ m (Nat.lt_succ_self m) hm]
  exact this _ fun m hm => (memAt_lt wf hm).1
theorem T_mem {sh : List Ln} (wf : Wf sh) {k x : Nat} : x ∈ T sh k ↔ ∃ m ∈ memAt sh k, (lookAt sh m = true ∧ x = m) ∨ (lookAt sh m = false ∧ x ∈ T sh m) := by
  rw [T_eq wf, List.mem_flatMap]
  refine ⟨fun ⟨m, hm, h⟩ => ⟨m, hm, ?_⟩, fun ⟨m, hm, h⟩ => ⟨m, hm, ?_⟩⟩
  · cases e : lookAt sh m with
    | true => rw [e] at h; exact .inl ⟨rfl, by simpa using h⟩
    | false => rw [e] at h; exact .inr ⟨rfl, by simpa using h⟩
  · rcases h with ⟨e, rfl⟩ | ⟨e, h⟩
    · rw [e]; simp
    · rw [e]; simpa using h
/-- told in rising order, each once -/
def TS (sh : List Ln) (k : Nat) : List Int := sortI (dedupI ((T sh k).map fun (m : Nat) => (m : Int)))
theorem mem_sortI {x : Int} {l : List Int} : x ∈ sortI l ↔ x ∈ l := (sortI_perm l).mem_iff
theorem sort_same {l m : List Int} (d : l.Nodup) (h : ∀ x, x ∈ l ↔ x ∈ m) : sortI l = sortI (dedupI m) := by
  have p : l.Perm (dedupI m) := (List.perm_ext_iff_of_nodup d (dedupI_nodup m)).mpr fun x => by rw [h x, mem_dedupI]
  exact sortI_uniq ((sortI_perm l).trans p) (sortI_pw l)
theorem sort_dedup_same {l m : List Int} (h : ∀ x, x ∈ l ↔ x ∈ m) : sortI (dedupI l) = sortI (dedupI m) := sort_same (dedupI_nodup l) fun x => by rw [mem_dedupI, h x]
theorem mem_TS {sh : List Ln} {k : Nat} {x : Int} : x ∈ TS sh k ↔ ∃ m ∈ T sh k, x = (m : Int) := by
  unfold TS
  rw [mem_sortI, mem_dedupI, List.mem_map]
  exact ⟨fun ⟨m, h, e⟩ => ⟨m, h, e.symm⟩, fun ⟨m, h, e⟩ => ⟨m, h, e.symm⟩⟩
end Law

set_option autoImplicit false
set_option linter.all false
set_option maxRecDepth 10000
namespace Law
open Pv
local macro_rules | `(tactic| get_elem_tactic_trivial) => `(tactic| simp (maxSteps := 2000000) only [wpE_lit, wpE_var, wpE_glob, wpE_tup, wpE_lst, wpE_dnew, wpE_dict, wpE_lrange, wpE_lrange2, wpE_denum2, wpE_sset, wpE_ssetS, wpE_state, wpE_neg, wpE_bin, wpE_cmp, wpE_chain, wpE_and, wpE_or, wpE_not, wpE_ite, wpE_idx, wpE_slice, wpE_rev, wpE_stepS, wpE_call, wpE_blt, wpE_dget, wpE_dget2, wpE_mut, wpE_mutF, wpE_comp, wpE_dict1, wpE_dcomp, wpE_dvals, wpE_indexOf, wpE_tupS, wpE_lstS, wpE_isInst, wpE_gget, wpE_gget2, wpE_gidx, wpE_gmem, wpE_gcd, wpLS_nil, wpLS_star, wpLS_one, wpI_rngD, wpI_rngL, wpI_zip, wpI_items, wpI_keys, bin_bor, bin_band, bin_shl, bin_shr, blt_sum, blt_all, blt_any, blt_maxL, blt_minL, blt_minP,
  wpL_nil, wpL_cons, wpF_nil, wpF_cons, wpA_nil, wpA_lent, wpA_fz, wpB_one, wpB_cons, wpO_none, wpO_some, wpC_nil, wpC_cons, wpI_seq, wpI_rng, wpI_rng2, wpI_enum, wpP_nil, wpP_cons, wpSs_nil, wpSs_cons, wpS_expr, wpS_assign, wpS_par, wpS_setIdx, wpS_aug, wpS_retN, wpS_ret, wpS_ite, wpS_for, wpS_while, wpS_brk, wpS_cont, wpS_pass,
  giveT_var, giveT_tup, giveL_nil, giveL_cons, give_fz, give_fresh, give_bor, esc_fz, esc_fresh, esc_bor, escI_fz, escI_fresh, escI_bor, kept_fz, kept_fresh, kept_bor, retK_fz, retK_fresh, retK_bor,
  List.getElem?_cons_zero, List.getElem?_cons_succ, List.getElem?_nil, List.set_cons_zero, List.set_cons_succ, List.foldl_cons, List.foldl_nil, List.zip_cons_cons, List.zip_nil_left, List.zip_nil_right, List.zipWith_cons_cons, List.zipWith_nil_left, List.zipWith_nil_right, List.length_cons, List.length_nil, List.replicate, List.cons_append, List.nil_append, List.set_nil, wipeE, back, back,
  Option.some.injEq, Prod.mk.injEq, exists_and_left, exists_eq_left', exists_eq_right', exists_eq', and_true, true_and, and_assoc, if_true, if_false, ↓reduceIte, reduceCtorEq, false_and, and_false, exists_false, or_false, false_or, D.int.injEq, D.str.injEq, D.tup.injEq, D.lst.injEq, D.dic.injEq, D.ref.injEq, D.bl.injEq, List.cons.injEq,
  getF, setF, List.find?_cons, List.find?_nil, Option.map_some, Option.map_none, tru_bl, tru_int, tru_non, tru_tup, tru_lst, tru_str, bin_add_int, bin_sub_int, bin_mul_int, bin_fdiv_int, bin_mod_int, bin_pow_int, bin_add_str, bin_add_lst, bin_add_tup, bin_mul_lst, bin_mul_tup, cmp_lt_int, cmp_le_int, cmp_gt_int, cmp_ge_int, cmp_lt_str, cmp_le_str, cmp_gt_str, cmp_ge_str, cmp_eq_rep, cmp_ne_rep, cmp_eq_int, cmp_eq_str, cmp_eq_tup, cmp_eq_lst, cmp_eq_bl, cmp_ne_int, cmp_ne_str, cmp_ne_tup, cmp_ne_lst, cmp_ne_bl, cmp_mem, cmp_notMem, mem_tup, mem_lst, mem_dic, idx_tup, idx_lst, idx_str, idx_dic_int, idx_dic_str, idx_ref, isKey_int, isKey_str, blt_len_tup, blt_len_lst, blt_len_dic, blt_len_str, blt_abs, blt_int, blt_int_bl, blt_max, blt_min, blt_list_lst, blt_list_tup, blt_tuple_lst, blt_tuple_tup, blt_repr, blt_sorted, kind_int, kind_str, kind_bl, kind_tup, kind_rep, kind_non, kind_lst, kind_dic, optI_none, optI_some, slice_tup, slice_lst, slice_str, rev_lst, rev_tup, items_tup, items_lst, mut_append, mut_pop, mut_popAt, mut_extend, set_lst, set_dic, Nat.reduceSub, Nat.reduceAdd, nil_beq, eq_self, Nat.reduceBEq, List.cons_beq_cons, List.isEmpty_cons, List.isEmpty_nil, Bool.and_true, Bool.and_false, Bool.true_and, Bool.false_and, Bool.not_true, Bool.not_false, Bool.false_eq_true, List.map_cons, List.map_nil, decide_eq_true_eq, Nat.reduceEqDiff])
section
variable {d : Nat} {μ : Store} {Q : Nat → D → Store → Prop} {X : D → Store → Prop} {sh : List Ln} {l : Ln} {i k : Nat}
theorem members_ok (wf : WfL i l) (post : Q 0 (.tup (l.mem.map fun (m : Nat) => .int (m : Int))) μ) : callN Pg (d + 1) "members" [l.toD] μ Q X := by
  rw [callN_succ]
  refine ⟨d_members, rfl, rfl, ?_⟩
  show wpSs _ _ b_members _ [some (2, l.toD)] _
  unfold b_members
  get_elem_tactic_trivial
  rw [idx_ln]
  get_elem_tactic_trivial
  refine ⟨word_S wf, rfl, ?_⟩
  rw [any_two, word_ly wf]
  cases l with
  | letter s => exact post
  | yes => exact post
  | op w ms =>
    show sliceP (Ln.op w ms).toD (some 1) none fun d => retK (kindOf d) [some (2, (Ln.op w ms).toD)] d fun l d => Q l d μ
    rw [slice_ln (fun s e => by cases e)]
    exact post
/-! ### touched -/
def dD (l : List Nat) : List (D × D) := l.map fun (m : Nat) => (D.int (m : Int), D.bl true)
theorem dget_dD {m : Nat} : ∀ {l : List Nat}, (dget (dD l) (.int (m : Int))).isSome = decide (m ∈ l)
  | [] => rfl
  | x :: r => by
    show (if pyEq (.int (x : Int)) (.int (m : Int)) = true then some (D.bl true) else dget (dD r) (.int (m : Int))).isSome = _
    show (if ((x : Int) == (m : Int)) = true then some (D.bl true) else dget (dD r) (.int (m : Int))).isSome = _
    by_cases h : x = m
    · subst h; simp
    · have h2 : ¬ (x : Int) = (m : Int) := by omega
      have h3 : ¬ m = x := fun e => h e.symm
      rw [if_neg (by simpa using h2), dget_dD]
      simp [h3]
theorem dput_dD {m : Nat} {l : List Nat} (h : m ∉ l) : dput (dD l) (.int (m : Int)) (.bl true) = dD (l ++ [m]) := by
  unfold dput
  have : ((dD l).any fun q => pyEq q.1 (.int (m : Int))) = false := by
    rw [List.any_eq_false]
    intro q hq
    obtain ⟨x, hx, rfl⟩ := List.mem_map.mp hq
    show ¬ ((x : Int) == (m : Int)) = true
    intro e
    have e : (x : Int) = (m : Int) := by simpa using e
    exact h (by have : x = m := by omega
                exact this ▸ hx)
  rw [this, if_neg (by decide)]
  simp [dD]
theorem keys_dD {l : List Nat} : intsOf ((dD l).map (·.1)) = some (l.map fun (m : Nat) => (m : Int)) := by
  induction l with
  | nil => rfl
  | cons x r ih =>
    show (intsOf ((dD r).map (·.1))).map ((x : Int) :: ·) = _
    rw [ih]; rfl
structure In (sh : List Ln) (k : Nat) (cur : Nat → Nat → Prop) (ws ms fs : List Nat) : Prop where
  act : ∀ w ∈ ws, w = k ∨ (w ∈ ms ∧ lookAt sh w = false)
  nd : ms.Nodup
  lt : ∀ m ∈ ms, m < k
  fnd : fs.Nodup
  fmem : ∀ m, m ∈ fs ↔ m ∈ ms ∧ lookAt sh m = true
  snd1 : ∀ m ∈ ms, lookAt sh m = true → m ∈ T sh k
  snd2 : ∀ m ∈ ms, lookAt sh m = false → ∀ x ∈ T sh m, x ∈ T sh k
  clo : ∀ p, (p = k ∨ (p ∈ ms ∧ lookAt sh p = false)) → p ∉ ws → ∀ m ∈ memAt sh p, m ∈ ms ∨ cur p m
  len1 : ms.length + unmet k ms ≤ k
  len2 : fs.length ≤ ms.length
  len3 : unmet k ms + ws.length ≤ k + 1
theorem In.done {ms fs : List Nat} (wf : Wf sh) (h : In sh k (fun _ _ => False) [] ms fs) : sortI (fs.map fun (m : Nat) => (m : Int)) = TS sh k := by
  have all : ∀ n p, p < n → (p = k ∨ (p ∈ ms ∧ lookAt sh p = false)) → ∀ x ∈ T sh p, x ∈ fs := by
    intro n
    induction n with
    | zero => exact fun p h => absurd h (Nat.not_lt_zero _)
    | succ n ih =>
      intro p hp ha x hx
      obtain ⟨m, hm, h2⟩ := (T_mem wf).mp hx
      have hms : m ∈ ms := (h.clo p ha (by simp) m hm).elim id False.elim
      rcases h2 with ⟨e, rfl⟩ | ⟨e, h2⟩
      · exact (h.fmem _).mpr ⟨hms, e⟩
      · exact ih m (by have := (memAt_lt wf hm).1; omega) (.inr ⟨hms, e⟩) x h2
  refine sort_same ?_ fun x => ?_
  · exact List.Pairwise.map _ (fun a b ne e => ne (by omega)) h.fnd
  · rw [List.mem_map, List.mem_map]
    refine ⟨fun ⟨m, hm, e⟩ => ⟨m, ?_, e⟩, fun ⟨m, hm, e⟩ => ⟨m, all (k + 1) k (Nat.lt_succ_self k) (.inl rfl) m hm, e⟩⟩
    obtain ⟨h1, h2⟩ := (h.fmem m).mp hm
    exact h.snd1 m h1 h2
end
end Law

set_option autoImplicit false
set_option linter.all false
set_option maxRecDepth 10000
namespace Law
open Pv
local macro_rules | `(tactic| get_elem_tactic_trivial) => `(tactic| simp (maxSteps := 2000000) only [wpE_lit, wpE_var, wpE_glob, wpE_tup, wpE_lst, wpE_dnew, wpE_dict, wpE_lrange, wpE_lrange2, wpE_denum2, wpE_sset, wpE_ssetS, wpE_state, wpE_neg, wpE_bin, wpE_cmp, wpE_chain, wpE_and, wpE_or, wpE_not, wpE_ite, wpE_idx, wpE_slice, wpE_rev, wpE_stepS, wpE_call, wpE_blt, wpE_dget, wpE_dget2, wpE_mut, wpE_mutF, wpE_comp, wpE_dict1, wpE_dcomp, wpE_dvals, wpE_indexOf, wpE_tupS, wpE_lstS, wpE_isInst, wpE_gget, wpE_gget2, wpE_gidx, wpE_gmem, wpE_gcd, wpLS_nil, wpLS_star, wpLS_one, wpI_rngD, wpI_rngL, wpI_zip, wpI_items, wpI_keys, bin_bor, bin_band, bin_shl, bin_shr, blt_sum, blt_all, blt_any, blt_maxL, blt_minL, blt_minP,
  wpL_nil, wpL_cons, wpF_nil, wpF_cons, wpA_nil, wpA_lent, wpA_fz, wpB_one, wpB_cons, wpO_none, wpO_some, wpC_nil, wpC_cons, wpI_seq, wpI_rng, wpI_rng2, wpI_enum, wpP_nil, wpP_cons, wpSs_nil, wpSs_cons, wpS_expr, wpS_assign, wpS_par, wpS_setIdx, wpS_aug, wpS_retN, wpS_ret, wpS_ite, wpS_for, wpS_while, wpS_brk, wpS_cont, wpS_pass,
  giveT_var, giveT_tup, giveL_nil, giveL_cons, give_fz, give_fresh, give_bor, esc_fz, esc_fresh, esc_bor, escI_fz, escI_fresh, escI_bor, kept_fz, kept_fresh, kept_bor, retK_fz, retK_fresh, retK_bor,
  List.getElem?_cons_zero, List.getElem?_cons_succ, List.getElem?_nil, List.set_cons_zero, List.set_cons_succ, List.foldl_cons, List.foldl_nil, List.zip_cons_cons, List.zip_nil_left, List.zip_nil_right, List.zipWith_cons_cons, List.zipWith_nil_left, List.zipWith_nil_right, List.length_cons, List.length_nil, List.replicate, List.cons_append, List.nil_append, List.set_nil, wipeE, back, back,
  Option.some.injEq, Prod.mk.injEq, exists_and_left, exists_eq_left', exists_eq_right', exists_eq', and_true, true_and, and_assoc, if_true, if_false, ↓reduceIte, reduceCtorEq, false_and, and_false, exists_false, or_false, false_or, D.int.injEq, D.str.injEq, D.tup.injEq, D.lst.injEq, D.dic.injEq, D.ref.injEq, D.bl.injEq, List.cons.injEq,
  getF, setF, List.find?_cons, List.find?_nil, Option.map_some, Option.map_none, tru_bl, tru_int, tru_non, tru_tup, tru_lst, tru_str, bin_add_int, bin_sub_int, bin_mul_int, bin_fdiv_int, bin_mod_int, bin_pow_int, bin_add_str, bin_add_lst, bin_add_tup, bin_mul_lst, bin_mul_tup, cmp_lt_int, cmp_le_int, cmp_gt_int, cmp_ge_int, cmp_lt_str, cmp_le_str, cmp_gt_str, cmp_ge_str, cmp_eq_rep, cmp_ne_rep, cmp_eq_int, cmp_eq_str, cmp_eq_tup, cmp_eq_lst, cmp_eq_bl, cmp_ne_int, cmp_ne_str, cmp_ne_tup, cmp_ne_lst, cmp_ne_bl, cmp_mem, cmp_notMem, mem_tup, mem_lst, mem_dic, idx_tup, idx_lst, idx_str, idx_dic_int, idx_dic_str, idx_ref, isKey_int, isKey_str, blt_len_tup, blt_len_lst, blt_len_dic, blt_len_str, blt_abs, blt_int, blt_int_bl, blt_max, blt_min, blt_list_lst, blt_list_tup, blt_tuple_lst, blt_tuple_tup, blt_repr, blt_sorted, kind_int, kind_str, kind_bl, kind_tup, kind_rep, kind_non, kind_lst, kind_dic, optI_none, optI_some, slice_tup, slice_lst, slice_str, rev_lst, rev_tup, items_tup, items_lst, mut_append, mut_pop, mut_popAt, mut_extend, set_lst, set_dic, Nat.reduceSub, Nat.reduceAdd, nil_beq, eq_self, Nat.reduceBEq, List.cons_beq_cons, List.isEmpty_cons, List.isEmpty_nil, Bool.and_true, Bool.and_false, Bool.true_and, Bool.false_and, Bool.not_true, Bool.not_false, Bool.false_eq_true, List.map_cons, List.map_nil, decide_eq_true_eq, Nat.reduceEqDiff])
/-! ### loops that leave the names as they are -/
/-! ### sets of lines as dicts -/
def ins (m : Nat) (l : List Nat) : List Nat := if m ∈ l then l else l ++ [m]
theorem mem_ins {m x : Nat} {l : List Nat} : x ∈ ins m l ↔ x ∈ l ∨ x = m := by
  unfold ins
  split
  · rename_i h
    exact ⟨.inl, fun q => q.elim id fun e => e ▸ h⟩
  · rw [List.mem_append, List.mem_singleton]
theorem ins_nodup {m : Nat} {l : List Nat} (h : l.Nodup) : (ins m l).Nodup := by
  unfold ins
  split
  · exact h
  · rename_i hm
    exact List.nodup_append.mpr ⟨h, by simp, fun a ha b hb e => by rw [List.mem_singleton] at hb; exact hm (hb ▸ e ▸ ha)⟩
theorem dput_ins {m : Nat} {l : List Nat} : dput (dD l) (.int (m : Int)) (.bl true) = dD (ins m l) := by
  unfold ins
  split
  · rename_i h
    unfold dput
    split
    · have : ∀ l : List Nat, (dD l).map (fun q => if pyEq q.1 (.int (m : Int)) = true then (q.1, D.bl true) else q) = dD l := by
        intro l
        induction l with
        | nil => rfl
        | cons x r ih =>
          show (if pyEq (.int (x : Int)) (.int (m : Int)) = true then (D.int (x : Int), D.bl true) else (D.int (x : Int), D.bl true)) :: (dD r).map (fun q => if pyEq q.1 (.int (m : Int)) = true then (q.1, D.bl true) else q) = _
          rw [ih]
          split <;> rfl
      exact this l
    · rename_i hn
      exfalso
      apply hn
      rw [List.any_eq_true]
      refine ⟨(.int (m : Int), .bl true), List.mem_map.mpr ⟨m, h, rfl⟩, ?_⟩
      show ((m : Int) == (m : Int)) = true
      simp
  · rename_i h
    exact dput_dD h
section
variable {d : Nat} {μ : Store} {Q : Nat → D → Store → Prop} {X : D → Store → Prop} {sh : List Ln} {l : Ln} {i k p m : Nat}
theorem numbers_ok (wf : WfL i l) (post : Q 0 (.tup (iD l.mem)) μ) : callN Pg (d + 1) "numbers_in" [l.toD] μ Q X := by
  rw [callN_succ]
  refine ⟨d_numbers_in, rfl, rfl, ?_⟩
  show wpSs _ _ b_numbers_in _ [some (2, l.toD)] _
  unfold b_numbers_in
  get_elem_tactic_trivial
  rw [idx_ln]
  get_elem_tactic_trivial
  refine ⟨word_S wf, rfl, ?_⟩
  cases l with
  | letter s => exact post
  | yes => exact post
  | op w ms =>
    have : (w == kLetter) = false := by rcases wf.1 with rfl | rfl | rfl | rfl | rfl <;> rfl
    rw [show (Ln.op w ms).word = w from rfl, this, if_neg (by decide), slice_ln (fun s e => by cases e)]
    exact post
/-- what is met while the lines are gone over from line a down: n of them are behind -/
structure Met (sh : List Ln) (a n : Nat) (ms : List Nat) : Prop where
  nd : ms.Nodup
  here : a ∈ ms
  rch : ∀ x ∈ ms, Rch sh a x
  clo : ∀ p ∈ ms, a < p + n → ∀ m ∈ memAt sh p, m ∈ ms
theorem Met.len (wf : Wf sh) {a n : Nat} {ms : List Nat} (h : Met sh a n ms) : ms.length ≤ a + 1 :=
  pigeon h.nd fun x hx => Nat.lt_succ_of_le ((h.rch x hx).le wf)
theorem Met.done (wf : Wf sh) {a : Nat} {ms : List Nat} (h : Met sh a (a + 1) ms) : sortI (cI ms) = cI (ND sh a) := by
  have all : ∀ m, Rch sh a m → m ∈ ms := by
    intro m hm
    induction hm with
    | refl => exact h.here
    | step _ hm ih => exact h.clo _ ih (by omega) _ hm
  refine ND_uniq wf (List.Pairwise.map _ (fun a b ne e => ne (by omega)) h.nd) fun x => ?_
  rw [List.mem_map]
  exact ⟨fun ⟨m, hm, e⟩ => ⟨m, h.rch m hm, e.symm⟩, fun ⟨m, hm, e⟩ => ⟨m, all m hm, e.symm⟩⟩
theorem Met.start {a : Nat} : Met sh a 0 [a] := ⟨by simp, by simp, fun x hx => by rw [List.mem_singleton] at hx; subst hx; exact .refl _, fun p hp h => by
  rw [List.mem_singleton] at hp; omega⟩
theorem Met.ins (wf : Wf sh) {a n m p : Nat} {ms : List Nat} (h : Met sh a n ms) (hp : p ∈ ms) (hm : m ∈ memAt sh p) (hn : p + n ≤ a) : Met sh a n (ins m ms) := ⟨ins_nodup h.nd, mem_ins.mpr (.inl h.here), fun x hx => by
  rcases mem_ins.mp hx with hx | rfl
  · exact h.rch x hx
  · exact .step (h.rch p hp) hm, fun q hq hl m' hm' => by
  rcases mem_ins.mp hq with hq | rfl
  · exact mem_ins.mpr (.inl (h.clo q hq hl m' hm'))
  · have := (memAt_lt wf hm).1; omega⟩
theorem Met.next {a n : Nat} {ms : List Nat} (h : Met sh a n ms) (hc : a - n ∈ ms → ∀ m ∈ memAt sh (a - n), m ∈ ms) (hn : n ≤ a) : Met sh a (n + 1) ms := ⟨h.nd, h.here, h.rch, fun p hp hl m hm => by
  by_cases e : a < p + n
  · exact h.clo p hp e m hm
  · have : p = a - n := by omega
    subst this
    exact hc hp m hm⟩
theorem sorted_keys {ms : List Nat} {Q : D → Prop} (h : Q (.lst ((sortI (cI ms)).map .int))) : sortedP [.dic (dD ms)] Q := .inl ⟨_, keys_dD, h⟩
theorem needed_by_ok (wf : Wf sh) (hk : k < sh.length) (hs : sh.length < 10000) (post : Q 1 (lN (ND sh k)) μ) : callN Pg (d + 2) "needed_by" [shD sh, .int (k : Int)] μ Q X := by
  rw [callN_succ]
  refine ⟨d_needed_by, rfl, rfl, ?_⟩
  show wpSs _ _ b_needed_by _ [some (2, shD sh), some (2, .int (k : Int)), none, none, none] _
  unfold b_needed_by
  get_elem_tactic_trivial
  rw [show ((k : Int) - -1).toNat = k + 1 by omega]
  refine ⟨by omega, by omega, by omega, by omega, ?_⟩
  refine for_ok (fun pre post env ν => ν = μ ∧ ∃ n ms, post = (downL (k : Int) (k + 1)).drop n ∧ n ≤ k + 1 ∧ Met sh k n ms ∧ env = [some (2, shD sh), some (2, .int (k : Int)), some (1, .dic (dD ms)), none, none]) ⟨rfl, 0, [k], rfl, Nat.zero_le _, Met.start, rfl⟩ ?_ ?_
  · rintro pre x tl env ν K' ⟨rfl, n, ms, hp, hn, hm, rfl⟩ hk'
    obtain ⟨hn, rfl, rfl⟩ := down_step hp
    obtain ⟨q, hq⟩ : ∃ q : Nat, q = k - n := ⟨_, rfl⟩
    have eq : (k : Int) - (n : Int) = (q : Int) := by omega
    rw [eq]
    get_elem_tactic_trivial
    have hqk : q ≤ k := by omega
    have hql : q < sh.length := by omega
    have hl := List.getElem?_eq_getElem hql
    have em : sh[q].mem = memAt sh q := by unfold memAt; rw [hl]
    rw [dget_dD]
    by_cases hin : q ∈ ms
    · rw [decide_eq_true hin, if_pos rfl]
      refine ⟨_, atI_sh hl, numbers_ok (wf _ _ hl) ⟨_, rfl, ?_⟩⟩
      rw [em]
      show forLoop _ _ _ _ _
      refine for_ok (fun pre2 post2 env ν' => ν' = ν ∧ ∃ dn rest ms', post2 = iD rest ∧ memAt sh q = dn ++ rest ∧ Met sh k n ms' ∧ q ∈ ms' ∧ (∀ m ∈ dn, m ∈ ms') ∧ env = [some (2, shD sh), some (2, .int (k : Int)), some (1, .dic (dD ms')), some (0, .int (q : Int)), none])
        ⟨rfl, [], memAt sh q, ms, rfl, rfl, hm, hin, by simp, rfl⟩ ?_ ?_
      · rintro pre2 x2 tl2 env ν' K2 ⟨rfl, dn, rest, ms', hp2, hd, hm', hq', hdn, rfl⟩ hk2
        cases rest with
        | nil => cases hp2
        | cons m rest =>
          obtain ⟨rfl, rfl⟩ : x2 = .int (m : Int) ∧ tl2 = iD rest := List.cons.inj hp2
          have hmm : m ∈ memAt sh q := by rw [hd]; simp
          have hlen := hm'.len wf
          get_elem_tactic_trivial
          refine ⟨by show (List.map _ _).length < big; rw [List.length_map]; show _ < 16777216; omega, ?_⟩
          rw [dput_ins]
          exact hk2 _ _ ⟨rfl, dn ++ [m], rest, ins m ms', rfl, by rw [hd]; simp, hm'.ins wf hq' hmm (by omega), mem_ins.mpr (.inl hq'), fun x hx => by
            rcases List.mem_append.mp hx with hx | hx
            · exact mem_ins.mpr (.inl (hdn x hx))
            · rw [List.mem_singleton] at hx; exact mem_ins.mpr (.inr hx), rfl⟩
      · rintro pre2 env ν' ⟨rfl, dn, rest, ms', hp2, hd, hm', hq', hdn, rfl⟩
        have : rest = [] := by
          cases rest with
          | nil => rfl
          | cons _ _ => cases hp2
        subst this
        rw [List.append_nil] at hd
        exact hk' _ _ ⟨rfl, n + 1, ms', rfl, hn, hm'.next (fun _ => by rw [← hq, hd]; exact hdn) (by omega), rfl⟩
    · rw [decide_eq_false hin, if_neg (by decide)]
      exact hk' _ _ ⟨rfl, n + 1, ms, rfl, hn, hm.next (fun h => absurd (hq ▸ h) hin) (by omega), rfl⟩
  · rintro pre env ν ⟨rfl, n, ms, hp, hn, hm, rfl⟩
    have hn := down_end hp hn
    subst hn
    get_elem_tactic_trivial
    refine sorted_keys ?_
    rw [hm.done wf, iD_cI]
    exact post
theorem needed_ok (wf : Wf sh) (h1 : 1 ≤ sh.length) (hs : sh.length < 10000) (post : Q 1 (lN (ND sh (sh.length - 1))) μ) : callN Pg (d + 3) "needed" [shD sh] μ Q X := by
  rw [callN_succ]
  refine ⟨d_needed, rfl, rfl, ?_⟩
  show wpSs _ _ b_needed _ [some (2, shD sh)] _
  unfold b_needed
  get_elem_tactic_trivial
  rw [List.length_map, last_int h1]
  exact needed_by_ok wf (by omega) hs post
end
end Law

set_option autoImplicit false
set_option linter.all false
set_option maxRecDepth 10000
set_option maxHeartbeats 1000000
namespace Law
open Pv
local macro_rules | `(tactic| get_elem_tactic_trivial) => `(tactic| simp (maxSteps := 2000000) only [wpE_lit, wpE_var, wpE_glob, wpE_tup, wpE_lst, wpE_dnew, wpE_dict, wpE_lrange, wpE_lrange2, wpE_denum2, wpE_sset, wpE_ssetS, wpE_state, wpE_neg, wpE_bin, wpE_cmp, wpE_chain, wpE_and, wpE_or, wpE_not, wpE_ite, wpE_idx, wpE_slice, wpE_rev, wpE_stepS, wpE_call, wpE_blt, wpE_dget, wpE_dget2, wpE_mut, wpE_mutF, wpE_comp, wpE_dict1, wpE_dcomp, wpE_dvals, wpE_indexOf, wpE_tupS, wpE_lstS, wpE_isInst, wpE_gget, wpE_gget2, wpE_gidx, wpE_gmem, wpE_gcd, wpLS_nil, wpLS_star, wpLS_one, wpI_rngD, wpI_rngL, wpI_zip, wpI_items, wpI_keys, bin_bor, bin_band, bin_shl, bin_shr, blt_sum, blt_all, blt_any, blt_maxL, blt_minL, blt_minP, blt_sortP,
  wpL_nil, wpL_cons, wpF_nil, wpF_cons, wpA_nil, wpA_lent, wpA_fz, wpB_one, wpB_cons, wpO_none, wpO_some, wpC_nil, wpC_cons, wpI_seq, wpI_rng, wpI_rng2, wpI_enum, wpP_nil, wpP_cons, wpSs_nil, wpSs_cons, wpS_expr, wpS_assign, wpS_par, wpS_setIdx, wpS_aug, wpS_retN, wpS_ret, wpS_ite, wpS_for, wpS_while, wpS_brk, wpS_cont, wpS_pass,
  giveT_var, giveT_tup, giveL_nil, giveL_cons, give_fz, give_fresh, give_bor, esc_fz, esc_fresh, esc_bor, escI_fz, escI_fresh, escI_bor, kept_fz, kept_fresh, kept_bor, retK_fz, retK_fresh, retK_bor,
  List.getElem?_cons_zero, List.getElem?_cons_succ, List.getElem?_nil, List.set_cons_zero, List.set_cons_succ, List.foldl_cons, List.foldl_nil, List.zip_cons_cons, List.zip_nil_left, List.zip_nil_right, List.zipWith_cons_cons, List.zipWith_nil_left, List.zipWith_nil_right, List.length_cons, List.length_nil, List.replicate, List.cons_append, List.nil_append, List.set_nil, wipeE, back, back,
  Option.some.injEq, Prod.mk.injEq, exists_and_left, exists_eq_left', exists_eq_right', exists_eq', and_true, true_and, and_assoc, if_true, if_false, ↓reduceIte, reduceCtorEq, false_and, and_false, exists_false, or_false, false_or, D.int.injEq, D.str.injEq, D.tup.injEq, D.lst.injEq, D.dic.injEq, D.ref.injEq, D.bl.injEq, List.cons.injEq,
  getF, setF, List.find?_cons, List.find?_nil, Option.map_some, Option.map_none, tru_bl, tru_int, tru_non, tru_tup, tru_lst, tru_str, bin_add_int, bin_sub_int, bin_mul_int, bin_fdiv_int, bin_mod_int, bin_pow_int, bin_add_str, bin_add_lst, bin_add_tup, bin_mul_lst, bin_mul_tup, cmp_lt_int, cmp_le_int, cmp_gt_int, cmp_ge_int, cmp_lt_str, cmp_le_str, cmp_gt_str, cmp_ge_str, cmp_eq_rep, cmp_ne_rep, cmp_eq_int, cmp_eq_str, cmp_eq_tup, cmp_eq_lst, cmp_eq_bl, cmp_ne_int, cmp_ne_str, cmp_ne_tup, cmp_ne_lst, cmp_ne_bl, cmp_mem, cmp_notMem, mem_tup, mem_lst, mem_dic, idx_tup, idx_lst, idx_str, idx_dic_int, idx_dic_str, idx_ref, isKey_int, isKey_str, blt_len_tup, blt_len_lst, blt_len_dic, blt_len_str, blt_abs, blt_int, blt_int_bl, blt_max, blt_min, blt_list_lst, blt_list_tup, blt_tuple_lst, blt_tuple_tup, blt_repr, blt_sorted, kind_int, kind_str, kind_bl, kind_tup, kind_rep, kind_non, kind_lst, kind_dic, optI_none, optI_some, slice_tup, slice_lst, slice_str, rev_lst, rev_tup, items_tup, items_lst, mut_append, mut_pop, mut_popAt, mut_extend, set_lst, set_dic, Nat.reduceSub, Nat.reduceAdd, nil_beq, eq_self, Nat.reduceBEq, List.cons_beq_cons, List.isEmpty_cons, List.isEmpty_nil, Bool.and_true, Bool.and_false, Bool.true_and, Bool.false_and, Bool.not_true, Bool.not_false, Bool.false_eq_true, List.map_cons, List.map_nil, decide_eq_true_eq, Nat.reduceEqDiff, atI_c0, atI_c1, atI_c2, atI_c3, cut_c1, List.length_map, Int.toNat_natCast, and_self, List.map_append])
def tnB : List S := match b_turns with | [_, .for_ _ _ _ b, _] => b | _ => []
def tnM : List S := match tnB with | [_, .for_ _ _ _ b, _, _] => b | _ => []
def tnI : List S := match tnM with | [.for_ _ _ _ b] => b | _ => []
section
variable {d : Nat} {μ : Store} {Q : Nat → D → Store → Prop} {X : D → Store → Prop} {E : Ends} {sh : List Ln} {k n m : Nat} {b es : List (List Nat × Int)} {l : List (Nat × List (List Nat × Int))} {w : List Nat} {u v : Int} {ln : Ln}
theorem lk_word (h : sh[n]? = some ln) : lkA sh n = (kUntil == ln.word || kSince == ln.word) := by
  unfold lkA
  rw [word_at h, Bool.beq_comm (a := ln.word), Bool.beq_comm (a := ln.word)]
theorem mem_at (h : sh[n]? = some ln) : memAt sh n = ln.mem := by unfold memAt; rw [h]
theorem items_W : (kvW b).map (fun q => D.tup [q.1, q.2]) = b.map fun q => D.tup [.str q.1, .int q.2] := by rw [List.map_map]; rfl
theorem items_lap {P1 P2 : Nat → Prop} {C : CallFn} {dl : Option (Nat × D)} (wf : Wf sh) (h : Cur sh P1 P2 es b) (hv : ∃ m, P1 m ∧ lkA sh m = true ∧ wordAt sh m = w ∧ Tn sh m = v)
    (hk : ∀ b', Cur sh P1 P2 (es ++ [(w, v)]) b' → E.nx [some (2, shD sh), some (1, .dic (kvF l)), some (0, .int (n : Int)), some (0, ln.toD), some (1, .dic (kvW b')), dl, some (0, .str w), some (0, .int v)] μ) :
    wpSs C Pg.gl tnI E [some (2, shD sh), some (1, .dic (kvF l)), some (0, .int (n : Int)), some (0, ln.toD), some (1, .dic (kvW b)), dl, some (0, .str w), some (0, .int v)] μ := by
  have hl := h.len
  dsimp only [tnI, tnM, tnB, b_turns]
  get_elem_tactic_trivial
  rw [getD_W]
  get_elem_tactic_trivial
  rw [dput_W]
  refine ⟨by show _ < 16777216; omega, ?_⟩
  exact hk _ (h.put wf hv)
theorem items_loop {p : Nat} {P1 P2 : Nat → Prop} {C : CallFn} (wf : Wf sh) (h : Cur sh P1 P2 [] b) (hp : p ∈ l.map (·.1)) (hl : ∀ q ∈ l, FR sh q.1 q.2) (h1 : ∀ m, Rch sh p m → P1 m)
    (hk : ∀ b', Cur sh P1 (fun m => P2 m ∨ Rch sh p m) [] b' → E.nx [some (2, shD sh), some (1, .dic (kvF l)), some (0, .int (n : Int)), some (0, ln.toD), some (1, .dic (kvW b')), some (0, .int (p : Int)), none, none] μ) :
    wpSs C Pg.gl tnM E [some (2, shD sh), some (1, .dic (kvF l)), some (0, .int (n : Int)), some (0, ln.toD), some (1, .dic (kvW b)), some (0, .int (p : Int)), none, none] μ := by
  show wpSs _ _ (.for_ [6, 7] (.tup [.var 6, .var 7]) (.itemsAt 1 5) tnI :: []) _ _ _
  rw [wpSs_cons, wpS_for, wpI_itemsAt]
  obtain ⟨q, hq, e1, e2⟩ := dget_F hp
  refine ⟨1, kvF l, 0, .int (p : Int), kvW q.2, ⟨rfl, rfl⟩, rfl, e2, ?_⟩
  rw [items_W]
  have fr : FR sh p q.2 := e1 ▸ hl q hq
  show forLoop _ _ [some (2, shD sh), some (1, .dic (kvF l)), some (0, .int (n : Int)), some (0, ln.toD), some (1, .dic (kvW b)), some (0, .int (p : Int)), none, none] _ _
  refine for_ok (fun pre tl env ν => ν = μ ∧ ∃ es rest b', q.2 = es ++ rest ∧ tl = rest.map (fun q => D.tup [.str q.1, .int q.2]) ∧ Cur sh P1 P2 es b' ∧ env = [some (2, shD sh), some (1, .dic (kvF l)), some (0, .int (n : Int)), some (0, ln.toD), some (1, .dic (kvW b')), some (0, .int (p : Int)), none, none]) ⟨rfl, [], q.2, b, rfl, rfl, h, rfl⟩ ?_ ?_
  · rintro pre x tl env ν K' ⟨rfl, es, rest, b', hes, htl, hc, rfl⟩ hk'
    obtain ⟨r, rest', rfl⟩ : ∃ a c, rest = a :: c := by
      cases rest with
      | nil => cases htl
      | cons a c => exact ⟨a, c, rfl⟩
    rw [List.map_cons] at htl
    injection htl with e3 e4
    subst e3
    rw [giveT_tup]
    refine ⟨_, rfl, rfl, _, _, rfl, ?_⟩
    show ∃ d r', [D.int r.2] = d :: r' ∧ _
    refine ⟨_, _, rfl, ?_⟩
    refine ⟨rfl, ?_⟩
    show wpSs _ _ tnI _ [some (2, shD sh), some (1, .dic (kvF l)), some (0, .int (n : Int)), some (0, ln.toD), some (1, .dic (kvW b')), some (0, .int (p : Int)), some (0, .str r.1), some (0, .int r.2)] _
    have hr : r ∈ q.2 := by rw [hes]; simp
    obtain ⟨m, m1, m2, m3, m4⟩ := fr.i1 r hr
    refine items_lap wf hc ⟨m, h1 m m1, m2, m3, m4⟩ fun b2 hc2 => ?_
    exact hk' _ _ ⟨rfl, es ++ [r], rest', b2, by rw [hes]; simp, e4, hc2, rfl⟩
  · rintro pre env ν ⟨rfl, es, rest, b', hes, htl, hc, rfl⟩
    obtain rfl : rest = [] := by
      cases rest with
      | nil => rfl
      | cons a c => cases htl
    rw [List.append_nil] at hes
    refine hk b' (Cur.done (hes ▸ hc) ?_)
    exact hes ▸ fr
theorem turns_lap (wf : Wf sh) (hn : sh[n]? = some ln) (hl : ∀ q ∈ l, FR sh q.1 q.2) (hm : ∀ p ∈ memAt sh n, p ∈ l.map (·.1)) (hnot : n ∉ l.map (·.1)) (hlen : l.length < 10000)
    (hk : ∀ b s3 s4 s5 s6 s7, FR sh n b → E.nx [some (2, shD sh), some (1, .dic (kvF (l ++ [(n, b)]))), some (0, .int (n : Int)), s3, s4, s5, s6, s7] μ) :
    wpSs (callN Pg (d + 1)) Pg.gl tnB E [some (2, shD sh), some (1, .dic (kvF l)), some (0, .int (n : Int)), none, none, none, none, none] μ := by
  have wfl : WfL n ln := wf n ln hn
  have hmem := mem_at hn
  rw [wpSs_split 1]
  generalize hE : Ends.mk _ _ _ _ _ = E1
  dsimp only [tnB, b_turns, List.take]
  get_elem_tactic_trivial
  refine ⟨_, atI_sh hn, ?_⟩
  rw [← hE]
  show wpSs _ _ (.for_ [5, 6, 7] (.var 5) (.seq (.call "members" [true] [.var 3])) tnM :: tnB.drop 2) _ [some (2, shD sh), some (1, .dic (kvF l)), some (0, .int (n : Int)), some (0, ln.toD), some (1, .dic (kvW [])), none, none, none] μ
  rw [wpSs_cons, wpS_for, wpI_seq]
  get_elem_tactic_trivial
  have c0 : Cur sh (fun m => ∃ p ∈ memAt sh n, Rch sh p m) (fun m => ∃ p ∈ ([] : List Nat), Rch sh p m) [] [] := ⟨by simp, by simp, fun m h _ => (by obtain ⟨p, hp, _⟩ := h; cases hp), by simp⟩
  refine members_ok wfl ?_
  get_elem_tactic_trivial
  refine for_ok (fun pre tl env ν => ν = μ ∧ ∃ mp rest b', ln.mem = mp ++ rest ∧ tl = iD rest ∧ Cur sh (fun m => ∃ p ∈ memAt sh n, Rch sh p m) (fun m => ∃ p ∈ mp, Rch sh p m) [] b' ∧ env = [some (2, shD sh), some (1, .dic (kvF l)), some (0, .int (n : Int)), some (0, ln.toD), some (1, .dic (kvW b')), none, none, none]) ⟨rfl, [], ln.mem, [], rfl, rfl, c0, rfl⟩ ?_ ?_
  · rintro pre x tl env ν K' ⟨rfl, mp, rest, b', hmp, htl, hc, rfl⟩ hk'
    obtain ⟨p, rest', rfl⟩ : ∃ a c, rest = a :: c := by
      cases rest with
      | nil => cases htl
      | cons a c => exact ⟨a, c, rfl⟩
    rw [show iD (p :: rest') = .int (p : Int) :: iD rest' from rfl] at htl
    injection htl with e3 e4
    subst e3
    have hpm : p ∈ memAt sh n := by rw [hmem, hmp]; simp
    show wpSs _ _ tnM _ [some (2, shD sh), some (1, .dic (kvF l)), some (0, .int (n : Int)), some (0, ln.toD), some (1, .dic (kvW b')), some (0, .int (p : Int)), none, none] _
    refine items_loop wf hc (hm p hpm) hl (fun m hr => ⟨p, hpm, hr⟩) fun b2 hc2 => ?_
    refine hk' _ _ ⟨rfl, mp ++ [p], rest', b2, by rw [hmp]; simp, e4, hc2.weak (fun _ h => h) fun m ⟨q, hq, hr⟩ => ?_, rfl⟩
    rcases List.mem_append.mp hq with hq | hq
    · exact .inl ⟨q, hq, hr⟩
    · rw [List.mem_singleton.mp hq] at hr; exact .inr hr
  · rintro pre env ν ⟨rfl, mp, rest, b', hmp, htl, hc, rfl⟩
    obtain rfl : rest = [] := by
      cases rest with
      | nil => rfl
      | cons a c => cases htl
    rw [List.append_nil] at hmp
    have hc : Cur sh (fun m => ∃ p ∈ memAt sh n, Rch sh p m) (fun m => ∃ p ∈ memAt sh n, Rch sh p m) [] b' := hc.weak (fun _ h => h) fun m ⟨q, hq, hr⟩ => ⟨q, by rw [← hmp, ← hmem]; exact hq, hr⟩
    have hbl := hc.len
    have hw := word_at hn
    dsimp only [tnB, b_turns, List.drop]
    get_elem_tactic_trivial
    rw [idx_ln]
    refine ⟨_, rfl, trivial, word_S wfl, by decide, ?_⟩
    rw [any_two, ← lk_word hn]
    have e9 : ∀ q ∈ b', okS q.1 = true := fun q hq => by
      obtain ⟨m, _, h2, h3, _⟩ := hc.i1 q hq
      rcases lkA_word h2 with h | h <;> rw [← h3, h] <;> rfl
    cases c : lkA sh n with
    | true =>
      get_elem_tactic_trivial
      rw [idx_ln]
      get_elem_tactic_trivial
      rw [items_W]
      refine ⟨rfl, ?_⟩
      refine comp_map b' (fun q => D.tup [.str q.1, .int q.2]) (fun q => .int (q.2 + (if q.1 = wordAt sh n then 0 else 1))) (fun q hq K2 hK => ?_) (by show _ ≤ 16777216; omega) ?_
      · get_elem_tactic_trivial
        rw [idx_ln]
        have e8 : (if (!(q.1 == ln.word)) = true then (1 : Int) else 0) = if q.1 = wordAt sh n then 0 else 1 := by
          rw [hw]
          by_cases c2 : q.1 = ln.word
          · rw [if_pos c2, c2, beq_self_eq_true]; rfl
          · rw [if_neg c2, if_pos (by rw [Bool.not_eq_true', beq_eq_false_iff_ne]; exact c2)]
        refine ⟨e9 q hq, word_S wfl, ?_⟩
        show K2 (some (D.int (q.2 + if (!(q.1 == ln.word)) = true then 1 else 0))) _ ν
        rw [e8]
        exact hK
      · get_elem_tactic_trivial
        refine ⟨by show _ ≤ 16777216; omega, 0 :: b'.map fun q => q.2 + (if q.1 = wordAt sh n then 0 else 1), ?_, by simp, by show _ < 16777216; omega, ?_⟩
        · rw [← intsOf_map (0 :: b'.map fun q => q.2 + (if q.1 = wordAt sh n then 0 else 1)), List.map_cons, List.map_map]
          rfl
        · rw [hc.num wf c, ← hw]
          rw [show D.dic [(D.str (wordAt sh n), D.int (Tn sh n))] = .dic (kvW [(wordAt sh n, Tn sh n)]) from rfl, dput_F hnot]
          exact hk _ _ _ _ _ _ (FR.look wf c)
    | false =>
      get_elem_tactic_trivial
      rw [dput_F hnot]
      exact ⟨by show _ < 16777216; omega, hk _ _ _ _ _ _ (FR.of c hc)⟩
theorem pw_split {pn rest : List Nat} {n p : Nat} (h : (pn ++ n :: rest).Pairwise (· < ·)) (hp : p ∈ pn ++ n :: rest) (hlt : p < n) : p ∈ pn := by
  rcases List.mem_append.mp hp with hp | hp
  · exact hp
  · have h2 := (List.pairwise_append.mp h).2.1
    rcases List.mem_cons.mp hp with e | hp
    · omega
    · have := (List.pairwise_cons.mp h2).1 p hp
      omega
theorem turns_ok (wf : Wf sh) (h1 : 1 ≤ sh.length) (hs : sh.length < 10000) (post : Q 0 (.int (TR sh (sh.length - 1))) μ) : callN Pg (d + 4) "turns" [shD sh] μ Q X := by
  rw [callN_succ]
  refine ⟨d_turns, rfl, rfl, ?_⟩
  show wpSs _ _ b_turns _ [some (2, shD sh), none, none, none, none, none, none, none] _
  rw [wpSs_split 1]
  generalize hE : Ends.mk _ _ _ _ _ = E1
  dsimp only [b_turns, List.take]
  get_elem_tactic_trivial
  rw [← hE]
  show wpSs _ _ (.for_ [2, 3, 4, 5, 6, 7] (.var 2) (.seq (.call "needed" [true] [.var 0])) tnB :: b_turns.drop 2) _ [some (2, shD sh), some (1, .dic (kvF [])), none, none, none, none, none, none] μ
  rw [wpSs_cons, wpS_for, wpI_seq]
  get_elem_tactic_trivial
  refine needed_ok wf h1 hs ?_
  get_elem_tactic_trivial
  have pw : (ND sh (sh.length - 1)).Pairwise (· < ·) := ND_pw
  have mm : ∀ x, x ∈ ND sh (sh.length - 1) ↔ Rch sh (sh.length - 1) x := fun x => mem_ND wf
  have hlen : (ND sh (sh.length - 1)).length ≤ sh.length - 1 + 1 := ND_len
  refine for_ok (fun pre tl env ν => ν = μ ∧ ∃ (pn rest : List Nat) (l : List (Nat × List (List Nat × Int))), ND sh (sh.length - 1) = pn ++ rest ∧ tl = iD rest ∧ l.map (·.1) = pn ∧ (∀ q ∈ l, FR sh q.1 q.2) ∧ env = [some (2, shD sh), some (1, .dic (kvF l)), none, none, none, none, none, none]) ⟨rfl, [], _, [], rfl, rfl, rfl, (fun q hq => nomatch hq), rfl⟩ ?_ ?_
  · rintro pre x tl env ν K' ⟨rfl, pn, rest, l, hnd, htl, hl, hfr, rfl⟩ hk
    obtain ⟨n, rest', rfl⟩ : ∃ a c, rest = a :: c := by
      cases rest with
      | nil => cases htl
      | cons a c => exact ⟨a, c, rfl⟩
    rw [show iD (n :: rest') = .int (n : Int) :: iD rest' from rfl] at htl
    injection htl with e3 e4
    subst e3
    rw [hnd] at pw mm hlen
    have hr : Rch sh (sh.length - 1) n := (mm n).mp (by simp)
    have hn : n < sh.length := hr.lt wf (by omega)
    have hln : sh[n]? = some sh[n] := List.getElem?_eq_getElem hn
    show wpSs (callN Pg (d + 3)) Pg.gl tnB _ [some (2, shD sh), some (1, .dic (kvF l)), some (0, .int (n : Int)), none, none, none, none, none] ν
    refine turns_lap wf hln hfr (fun p hp => ?_) ?_ ?_ fun b s3 s4 s5 s6 s7 hb => ?_
    · rw [hl]
      exact pw_split pw ((mm p).mpr (.step hr hp)) (memAt_lt wf hp).1
    · rw [hl]
      intro hin
      have := (List.pairwise_append.mp pw).2.2 n hin n List.mem_cons_self
      omega
    · have h3 := congrArg List.length hl
      rw [List.length_map] at h3
      rw [List.length_append] at hlen
      omega
    · refine hk _ _ ⟨rfl, pn ++ [n], rest', l ++ [(n, b)], by rw [hnd]; simp, e4, by rw [List.map_append, hl]; rfl, fun q hq => ?_, rfl⟩
      rcases List.mem_append.mp hq with hq | hq
      · exact hfr q hq
      · rw [List.mem_singleton.mp hq]; exact hb
  · rintro pre env ν ⟨rfl, pn, rest, l, hnd, htl, hl, hfr, rfl⟩
    obtain rfl : rest = [] := by
      cases rest with
      | nil => rfl
      | cons a c => cases htl
    rw [List.append_nil] at hnd
    obtain ⟨q, hq, e1, e2⟩ := dget_F (k := sh.length - 1) (l := l) (by rw [hl, ← hnd]; exact (mm _).mpr (.refl _))
    have fr : FR sh (sh.length - 1) q.2 := e1 ▸ hfr q hq
    have hq2 := fr.len
    dsimp only [b_turns, List.drop]
    get_elem_tactic_trivial
    rw [last_int h1, e2]
    refine ⟨_, rfl, _, rfl, by show _ ≤ 16777216; rw [List.length_map]; omega, 0 :: q.2.map (·.2), ?_, by simp, ?_⟩
    · rw [← intsOf_map (0 :: q.2.map (·.2)), List.map_cons, List.map_map, List.map_map]
      rfl
    · rw [fr.num wf]
      exact post
end
end Law

set_option autoImplicit false
set_option linter.all false
set_option maxRecDepth 10000
namespace Law
open Pv
local macro_rules | `(tactic| get_elem_tactic_trivial) => `(tactic| simp (maxSteps := 2000000) only [wpE_lit, wpE_var, wpE_glob, wpE_tup, wpE_lst, wpE_dnew, wpE_dict, wpE_lrange, wpE_lrange2, wpE_denum2, wpE_sset, wpE_ssetS, wpE_state, wpE_neg, wpE_bin, wpE_cmp, wpE_chain, wpE_and, wpE_or, wpE_not, wpE_ite, wpE_idx, wpE_slice, wpE_rev, wpE_stepS, wpE_call, wpE_blt, wpE_dget, wpE_dget2, wpE_mut, wpE_mutF, wpE_comp, wpE_dict1, wpE_dcomp, wpE_dvals, wpE_indexOf, wpE_tupS, wpE_lstS, wpE_isInst, wpE_gget, wpE_gget2, wpE_gidx, wpE_gmem, wpE_gcd, wpLS_nil, wpLS_star, wpLS_one, wpI_rngD, wpI_rngL, wpI_zip, wpI_items, wpI_keys, bin_bor, bin_band, bin_shl, bin_shr, blt_sum, blt_all, blt_any, blt_maxL, blt_minL, blt_minP,
  wpL_nil, wpL_cons, wpF_nil, wpF_cons, wpA_nil, wpA_lent, wpA_fz, wpB_one, wpB_cons, wpO_none, wpO_some, wpC_nil, wpC_cons, wpI_seq, wpI_rng, wpI_rng2, wpI_enum, wpP_nil, wpP_cons, wpSs_nil, wpSs_cons, wpS_expr, wpS_assign, wpS_par, wpS_setIdx, wpS_aug, wpS_retN, wpS_ret, wpS_ite, wpS_for, wpS_while, wpS_brk, wpS_cont, wpS_pass,
  giveT_var, giveT_tup, giveL_nil, giveL_cons, give_fz, give_fresh, give_bor, esc_fz, esc_fresh, esc_bor, escI_fz, escI_fresh, escI_bor, kept_fz, kept_fresh, kept_bor, retK_fz, retK_fresh, retK_bor,
  List.getElem?_cons_zero, List.getElem?_cons_succ, List.getElem?_nil, List.set_cons_zero, List.set_cons_succ, List.foldl_cons, List.foldl_nil, List.zip_cons_cons, List.zip_nil_left, List.zip_nil_right, List.zipWith_cons_cons, List.zipWith_nil_left, List.zipWith_nil_right, List.length_cons, List.length_nil, List.replicate, List.cons_append, List.nil_append, List.set_nil, wipeE, back, back,
  Option.some.injEq, Prod.mk.injEq, exists_and_left, exists_eq_left', exists_eq_right', exists_eq', and_true, true_and, and_assoc, if_true, if_false, ↓reduceIte, reduceCtorEq, false_and, and_false, exists_false, or_false, false_or, D.int.injEq, D.str.injEq, D.tup.injEq, D.lst.injEq, D.dic.injEq, D.ref.injEq, D.bl.injEq, List.cons.injEq,
  getF, setF, List.find?_cons, List.find?_nil, Option.map_some, Option.map_none, tru_bl, tru_int, tru_non, tru_tup, tru_lst, tru_str, bin_add_int, bin_sub_int, bin_mul_int, bin_fdiv_int, bin_mod_int, bin_pow_int, bin_add_str, bin_add_lst, bin_add_tup, bin_mul_lst, bin_mul_tup, cmp_lt_int, cmp_le_int, cmp_gt_int, cmp_ge_int, cmp_lt_str, cmp_le_str, cmp_gt_str, cmp_ge_str, cmp_eq_rep, cmp_ne_rep, cmp_eq_int, cmp_eq_str, cmp_eq_tup, cmp_eq_lst, cmp_eq_bl, cmp_ne_int, cmp_ne_str, cmp_ne_tup, cmp_ne_lst, cmp_ne_bl, cmp_mem, cmp_notMem, mem_tup, mem_lst, mem_dic, idx_tup, idx_lst, idx_str, idx_dic_int, idx_dic_str, idx_ref, isKey_int, isKey_str, blt_len_tup, blt_len_lst, blt_len_dic, blt_len_str, blt_abs, blt_int, blt_int_bl, blt_max, blt_min, blt_list_lst, blt_list_tup, blt_tuple_lst, blt_tuple_tup, blt_repr, blt_sorted, kind_int, kind_str, kind_bl, kind_tup, kind_rep, kind_non, kind_lst, kind_dic, optI_none, optI_some, slice_tup, slice_lst, slice_str, rev_lst, rev_tup, items_tup, items_lst, mut_append, mut_pop, mut_popAt, mut_extend, set_lst, set_dic, Nat.reduceSub, Nat.reduceAdd, nil_beq, eq_self, Nat.reduceBEq, List.cons_beq_cons, List.isEmpty_cons, List.isEmpty_nil, Bool.and_true, Bool.and_false, Bool.true_and, Bool.false_and, Bool.not_true, Bool.not_false, Bool.false_eq_true, List.map_cons, List.map_nil, decide_eq_true_eq, Nat.reduceEqDiff])
section
variable {d : Nat} {μ : Store} {Q : Nat → D → Store → Prop} {X : D → Store → Prop} {sh : List Ln} {l : Ln} {i k p m : Nat} {w : List Nat}
def needBodyN : List S := match b__law_need with | [_, .for_ _ _ _ b, _] => b | _ => []
theorem need_loopN (wf : Wf sh) (hk : k < sh.length) (hs : sh.length < 10000) {tl : Env} {E : Ends} {K : Env → Store → Prop}
    (e : ∀ acc, (∀ x, x ∈ acc ↔ Rch sh k x) → acc.length ≤ 2 * k + 3 → K (some (2, shD sh) :: some (0, .int (k : Int)) :: some (1, lN acc) :: none :: none :: tl) μ) :
    forLoop (fun x env1 μ1 K => giveT (.var 3) .fz x env1 fun env2 => wpSs (callN Pg (d + 1)) Pg.gl needBodyN { E with nx := fun e3 μ3 => K (wipeE e3 [3]) μ3, ct := fun e3 μ3 => K (wipeE e3 [3]) μ3, bk := fun e3 μ3 => E.nx (wipeE e3 [3]) μ3 } env2 μ1)
      (downL (k : Int) (k + 1)) (some (2, shD sh) :: some (0, .int (k : Int)) :: some (1, lN [k]) :: none :: none :: tl) μ K := by
  refine for_ok (fun pre post env ν => ν = μ ∧ ∃ n ms, post = (downL (k : Int) (k + 1)).drop n ∧ n ≤ k + 1 ∧ MtL sh k n ms ∧ env = (some (2, shD sh) :: some (0, .int (k : Int)) :: some (1, lN ms) :: none :: none :: tl)) ⟨rfl, 0, [k], rfl, Nat.zero_le _, MtL.start, rfl⟩ ?_ ?_
  · rintro pre x tl' env ν K' ⟨rfl, n, ms, hp, hn, hm, rfl⟩ hk'
    obtain ⟨hn, rfl, rfl⟩ := down_step hp
    obtain ⟨q, hq⟩ : ∃ q : Nat, q = k - n := ⟨_, rfl⟩
    have eq : (k : Int) - (n : Int) = (q : Int) := by omega
    rw [eq]
    have hql : q < sh.length := by omega
    have hl := List.getElem?_eq_getElem hql
    have em : sh[q].mem = memAt sh q := by unfold memAt; rw [hl]
    have hlen := hm.len
    unfold needBodyN b__law_need
    get_elem_tactic_trivial
    refine ⟨_, atI_sh hl, lmembers_ok (wf _ _ hl) ⟨_, rfl, rfl, ?_⟩⟩
    rw [em]
    refine comp_fm (memAt sh q) (fun (m : Nat) => D.int (m : Int)) (fun (m : Nat) => if q ∈ ms ∧ m ∉ ms then some (D.int (m : Int)) else none) (fun m hm' K'' hk2 => ?_) (by have := mem_len wf (k := q); show _ ≤ 16777216; omega) ?_
    · get_elem_tactic_trivial
      refine ⟨rfl, ?_⟩
      rw [any_iD, any_iD]
      refine ⟨plain_iD _ _, ?_⟩
      by_cases h1 : q ∈ ms
      · rw [decide_eq_true h1, if_pos rfl]
        refine ⟨rfl, plain_iD _ _, ?_⟩
        by_cases h2 : m ∈ ms
        · rw [if_neg (fun z => z.2 h2)] at hk2
          rw [decide_eq_true h2]
          exact hk2
        · rw [if_pos ⟨h1, h2⟩] at hk2
          rw [decide_eq_false h2]
          exact hk2
      · rw [if_neg (fun z => h1 z.1)] at hk2
        rw [decide_eq_false h1]
        exact hk2
    · get_elem_tactic_trivial
      have ef : (memAt sh q).filterMap (fun (m : Nat) => if q ∈ ms ∧ m ∉ ms then some (D.int (m : Int)) else none) = iD (if q ∈ ms then (memAt sh q).filter fun m => decide (m ∉ ms) else []) := by
        by_cases h1 : q ∈ ms
        · rw [if_pos h1]
          induction memAt sh q with
          | nil => rfl
          | cons x r ih =>
            rw [List.filterMap_cons, List.filter_cons]
            by_cases h2 : x ∈ ms
            · rw [if_neg (fun z => z.2 h2), if_neg (by simpa using h2)]; exact ih
            · rw [if_pos ⟨h1, h2⟩, if_pos (by simpa using h2)]
              show _ :: _ = _ :: _
              rw [ih]
        · rw [if_neg h1]
          induction memAt sh q with
          | nil => rfl
          | cons x r ih =>
            rw [List.filterMap_cons, if_neg (fun z => h1 z.1)]; exact ih
      rw [ef]
      have ea : ∀ r : List Nat, iD ms ++ iD r = iD (ms ++ r) := fun r => by simp
      rw [ea]
      by_cases h1 : q ∈ ms
      · rw [if_pos h1]
        have hm' := hm.next wf (by rw [← hq]; exact h1) (by omega)
        rw [← hq] at hm'
        have h2 := hm'.len
        rw [List.length_append] at h2
        refine ⟨by rw [List.length_map, List.length_map]; show _ ≤ 16777216; omega, hk' _ _ ⟨rfl, n + 1, _, rfl, hn, hm', rfl⟩⟩
      · rw [if_neg h1, List.append_nil]
        refine ⟨by rw [List.length_map]; show _ ≤ 16777216; simp; omega, hk' _ _ ⟨rfl, n + 1, ms, rfl, hn, hm.skip (by rw [← hq]; exact h1) (by omega), rfl⟩⟩
  · rintro pre env ν ⟨rfl, n, ms, hp, hn, hm, rfl⟩
    have hn := down_end hp hn
    subst hn
    exact e ms hm.all (by have := hm.len; omega)
theorem lneed_ok (wf : Wf sh) (hk : k < sh.length) (hs : sh.length ≤ 63) (post : Q 1 (lN (ND sh k)) μ) : callN Pg (d + 2) "_law_need" [shD sh, .int (k : Int)] μ Q X := by
  rw [callN_succ]
  refine ⟨d__law_need, rfl, rfl, ?_⟩
  show wpSs _ _ b__law_need _ [some (2, shD sh), some (0, .int (k : Int)), none, none, none] _
  rw [wpSs_split 1]
  generalize hE0 : Ends.mk _ _ _ _ _ = E0
  dsimp only [b__law_need, List.take]
  get_elem_tactic_trivial
  rw [← hE0]
  dsimp only [b__law_need, List.drop]
  rw [wpSs_cons, wpS_for, wpI_rngD, wpE_var]
  refine ⟨0, .int (k : Int), rfl, ?_⟩
  rw [wpE_neg, wpE_lit]
  refine ⟨1, rfl, _, _, ⟨rfl, rfl⟩, ⟨by omega, by omega, by omega, by omega⟩, ?_⟩
  rw [show ((k : Int) - -1).toNat = k + 1 by omega]
  refine need_loopN wf hk (by omega) fun acc ha hl => ?_
  get_elem_tactic_trivial
  exact sset_ND wf hk hs ha hl post
end
end Law

set_option autoImplicit false
set_option linter.all false
set_option maxRecDepth 10000
set_option maxHeartbeats 1000000
namespace Law
open Pv
local macro_rules | `(tactic| get_elem_tactic_trivial) => `(tactic| simp (maxSteps := 2000000) only [wpE_lit, wpE_var, wpE_glob, wpE_tup, wpE_lst, wpE_dnew, wpE_dict, wpE_lrange, wpE_lrange2, wpE_denum2, wpE_sset, wpE_ssetS, wpE_state, wpE_neg, wpE_bin, wpE_cmp, wpE_chain, wpE_and, wpE_or, wpE_not, wpE_ite, wpE_idx, wpE_slice, wpE_rev, wpE_stepS, wpE_call, wpE_blt, wpE_dget, wpE_dget2, wpE_mut, wpE_mutF, wpE_comp, wpE_dict1, wpE_dcomp, wpE_dvals, wpE_indexOf, wpE_tupS, wpE_lstS, wpE_isInst, wpE_gget, wpE_gget2, wpE_gidx, wpE_gmem, wpE_gcd, wpLS_nil, wpLS_star, wpLS_one, wpI_rngD, wpI_rngL, wpI_zip, wpI_items, wpI_keys, bin_bor, bin_band, bin_shl, bin_shr, blt_sum, blt_all, blt_any, blt_maxL, blt_minL, blt_minP, blt_sortP,
  wpL_nil, wpL_cons, wpF_nil, wpF_cons, wpA_nil, wpA_lent, wpA_fz, wpB_one, wpB_cons, wpO_none, wpO_some, wpC_nil, wpC_cons, wpI_seq, wpI_rng, wpI_rng2, wpI_enum, wpP_nil, wpP_cons, wpSs_nil, wpSs_cons, wpS_expr, wpS_assign, wpS_par, wpS_setIdx, wpS_aug, wpS_retN, wpS_ret, wpS_ite, wpS_for, wpS_while, wpS_brk, wpS_cont, wpS_pass,
  giveT_var, giveT_tup, giveL_nil, giveL_cons, give_fz, give_fresh, give_bor, esc_fz, esc_fresh, esc_bor, escI_fz, escI_fresh, escI_bor, kept_fz, kept_fresh, kept_bor, retK_fz, retK_fresh, retK_bor,
  List.getElem?_cons_zero, List.getElem?_cons_succ, List.getElem?_nil, List.set_cons_zero, List.set_cons_succ, List.foldl_cons, List.foldl_nil, List.zip_cons_cons, List.zip_nil_left, List.zip_nil_right, List.zipWith_cons_cons, List.zipWith_nil_left, List.zipWith_nil_right, List.length_cons, List.length_nil, List.replicate, List.cons_append, List.nil_append, List.set_nil, wipeE, back, back,
  Option.some.injEq, Prod.mk.injEq, exists_and_left, exists_eq_left', exists_eq_right', exists_eq', and_true, true_and, and_assoc, if_true, if_false, ↓reduceIte, reduceCtorEq, false_and, and_false, exists_false, or_false, false_or, D.int.injEq, D.str.injEq, D.tup.injEq, D.lst.injEq, D.dic.injEq, D.ref.injEq, D.bl.injEq, List.cons.injEq,
  getF, setF, List.find?_cons, List.find?_nil, Option.map_some, Option.map_none, tru_bl, tru_int, tru_non, tru_tup, tru_lst, tru_str, bin_add_int, bin_sub_int, bin_mul_int, bin_fdiv_int, bin_mod_int, bin_pow_int, bin_add_str, bin_add_lst, bin_add_tup, bin_mul_lst, bin_mul_tup, cmp_lt_int, cmp_le_int, cmp_gt_int, cmp_ge_int, cmp_lt_str, cmp_le_str, cmp_gt_str, cmp_ge_str, cmp_eq_rep, cmp_ne_rep, cmp_eq_int, cmp_eq_str, cmp_eq_tup, cmp_eq_lst, cmp_eq_bl, cmp_ne_int, cmp_ne_str, cmp_ne_tup, cmp_ne_lst, cmp_ne_bl, cmp_mem, cmp_notMem, mem_tup, mem_lst, mem_dic, idx_tup, idx_lst, idx_str, idx_dic_int, idx_dic_str, idx_ref, isKey_int, isKey_str, blt_len_tup, blt_len_lst, blt_len_dic, blt_len_str, blt_abs, blt_int, blt_int_bl, blt_max, blt_min, blt_list_lst, blt_list_tup, blt_tuple_lst, blt_tuple_tup, blt_repr, blt_sorted, kind_int, kind_str, kind_bl, kind_tup, kind_rep, kind_non, kind_lst, kind_dic, optI_none, optI_some, slice_tup, slice_lst, slice_str, rev_lst, rev_tup, items_tup, items_lst, mut_append, mut_pop, mut_popAt, mut_extend, set_lst, set_dic, Nat.reduceSub, Nat.reduceAdd, nil_beq, eq_self, Nat.reduceBEq, List.cons_beq_cons, List.isEmpty_cons, List.isEmpty_nil, Bool.and_true, Bool.and_false, Bool.true_and, Bool.false_and, Bool.not_true, Bool.not_false, Bool.false_eq_true, List.map_cons, List.map_nil, decide_eq_true_eq, Nat.reduceEqDiff, atI_c0, atI_c1, atI_c2, atI_c3, cut_c1, List.length_map, Int.toNat_natCast, and_self, List.map_append])
def ltB : List S := match b__law_turns with | [_, .for_ _ _ _ b, _] => b | _ => []
section
variable {d : Nat} {μ : Store} {Q : Nat → D → Store → Prop} {X : D → Store → Prop} {E : Ends} {sh : List Ln} {k n m x : Nat} {l : List Nat} {ln : Ln}
abbrev kvT (sh : List Ln) (l : List Nat) : List (D × D) := l.map fun (n : Nat) => (D.int (n : Int), D.int (Tn sh n))
theorem dget_T : ∀ l : List Nat, dget (kvT sh l) (.int (x : Int)) = if x ∈ l then some (.int (Tn sh x)) else none
  | [] => rfl
  | y :: r => by
    show (if ((y : Int) == (x : Int)) = true then some (D.int (Tn sh y)) else dget (kvT sh r) (.int (x : Int))) = _
    by_cases c : y = x
    · subst c
      rw [if_pos (beq_self_eq_true _), if_pos List.mem_cons_self]
    · rw [if_neg fun q => c (by have := eq_of_beq q; omega), dget_T r]
      have : x ∈ y :: r ↔ x ∈ r := ⟨fun h => by
        rcases List.mem_cons.mp h with h | h
        · exact absurd h.symm c
        · exact h, List.mem_cons_of_mem _⟩
      simp only [this]
theorem dput_T (h : n ∉ l) : dput (kvT sh l) (.int (n : Int)) (.int (Tn sh n)) = kvT sh (l ++ [n]) := by
  have e : ((kvT sh l).any fun q => pyEq q.1 (.int (n : Int))) = false := by
    rw [Bool.eq_false_iff]
    intro q
    obtain ⟨x, hx, e⟩ := List.any_eq_true.mp q
    obtain ⟨y, hy, rfl⟩ := List.mem_map.mp hx
    have e : ((y : Int) == (n : Int)) = true := e
    have := eq_of_beq e
    exact h (by rw [show n = y by omega]; exact hy)
  unfold dput
  rw [e, if_neg (by simp)]
  simp [kvT]
theorem lturns_lap (wf : Wf sh) (hs : sh.length ≤ 63) (hn : sh[n]? = some ln) (hl : ∀ x ∈ ND sh n, x ∈ l ↔ x ≠ n ∧ lkA sh x = true) (hlt : n ∉ l) (hll : l.length < 10000)
    (hk : ∀ s3, E.nx [some (2, shD sh), some (1, .dic (kvT sh (if lkA sh n = true then l ++ [n] else l))), some (0, .int (n : Int)), s3, none] μ) :
    wpSs (callN Pg (d + 2)) Pg.gl ltB E [some (2, shD sh), some (1, .dic (kvT sh l)), some (0, .int (n : Int)), none, none] μ := by
  have wfl : WfL n ln := wf n ln hn
  have hnl : n < sh.length := (List.getElem?_eq_some_iff.mp hn).1
  have hw := word_at hn
  dsimp only [ltB, b__law_turns]
  get_elem_tactic_trivial
  refine ⟨_, atI_sh hn, ?_⟩
  rw [idx_ln]
  refine ⟨trivial, word_S wfl, by decide, ?_⟩
  rw [any_two, ← lk_word hn]
  cases c : lkA sh n with
  | false =>
    get_elem_tactic_trivial
    rw [c] at hk
    exact hk none
  | true =>
    rw [c, if_pos rfl] at hk
    get_elem_tactic_trivial
    refine lneed_ok wf hnl hs ?_
    get_elem_tactic_trivial
    refine ⟨rfl, ?_⟩
    refine comp_fm (ND sh n) (fun (x : Nat) => D.int (x : Int)) (fun x => if x ∈ l then some (D.int (Tn sh x + ne sh x n)) else none) (fun x hx K2 hK => ?_) (by have := ND_len (sh := sh) (k := n); show _ ≤ 16777216; omega) ?_
    · have hxs : x < sh.length := ((mem_ND wf).mp hx).lt wf hnl
      have hxn : sh[x]? = some sh[x] := List.getElem?_eq_getElem hxs
      have wfx := wf x _ hxn
      get_elem_tactic_trivial
      rw [dget_T]
      by_cases c2 : x ∈ l
      · rw [if_pos c2]
        rw [if_pos c2] at hK
        get_elem_tactic_trivial
        refine ⟨_, atI_sh hxn, ?_⟩
        rw [idx_ln]
        refine ⟨_, atI_sh hn, ?_⟩
        rw [idx_ln]
        refine ⟨trivial, word_S wfx, word_S wfl, ?_⟩
        have e8 : (if (!(sh[x].word == ln.word)) = true then (1 : Int) else 0) = ne sh x n := by
          unfold ne
          rw [hw, word_at hxn]
          by_cases c3 : sh[x].word = ln.word
          · rw [if_pos c3, c3, beq_self_eq_true]; rfl
          · rw [if_neg c3, if_pos (by rw [Bool.not_eq_true', beq_eq_false_iff_ne]; exact c3)]
        show K2 (some (D.int (Tn sh x + if (!(sh[x].word == ln.word)) = true then (1 : Int) else 0))) _ μ
        rw [e8]
        exact hK
      · rw [if_neg c2]
        rw [if_neg c2] at hK
        exact hK
    · have e7 : (ND sh n).filterMap (fun x => if x ∈ l then some (D.int (Tn sh x + ne sh x n)) else none) = (((ND sh n).filter fun x => decide (x ≠ n) && lkA sh x).map fun x => Tn sh x + ne sh x n).map D.int := by
        have : ∀ L : List Nat, (∀ x ∈ L, x ∈ l ↔ x ≠ n ∧ lkA sh x = true) → L.filterMap (fun x => if x ∈ l then some (D.int (Tn sh x + ne sh x n)) else none) = ((L.filter fun x => decide (x ≠ n) && lkA sh x).map fun x => Tn sh x + ne sh x n).map D.int := by
          intro L
          induction L with
          | nil => intro _; rfl
          | cons y r ih =>
            intro h
            have h1 := h y List.mem_cons_self
            rw [List.filterMap_cons, List.filter_cons, ih fun x hx => h x (List.mem_cons_of_mem _ hx)]
            by_cases c3 : y ∈ l
            · obtain ⟨a, b⟩ := h1.mp c3
              rw [if_pos c3, if_pos (by rw [Bool.and_eq_true, decide_eq_true_iff]; exact ⟨a, b⟩)]
              rfl
            · rw [if_neg c3, if_neg fun q => c3 (h1.mpr (by rw [Bool.and_eq_true, decide_eq_true_iff] at q; exact q))]
        exact this _ hl
      rw [e7]
      have e6 := Tn_eq wf c
      have hlen : ((ND sh n).filter fun x => decide (x ≠ n) && lkA sh x).length ≤ n + 1 := Nat.le_trans (List.length_filter_le _ _) ND_len
      get_elem_tactic_trivial
      refine ⟨by show _ ≤ 16777216; omega, 0 :: ((ND sh n).filter fun x => decide (x ≠ n) && lkA sh x).map fun x => Tn sh x + ne sh x n, ?_, by simp, by show _ < 16777216; omega, ?_⟩
      · rw [← intsOf_map (0 :: ((ND sh n).filter fun x => decide (x ≠ n) && lkA sh x).map fun x => Tn sh x + ne sh x n), List.map_cons]
      · rw [← e6, dput_T hlt]
        exact hk _
theorem lturns_ok (wf : Wf sh) (h1 : 1 ≤ sh.length) (hs : sh.length ≤ 63) (post : Q 0 (.int (TR sh (sh.length - 1))) μ) : callN Pg (d + 3) "_law_turns" [shD sh] μ Q X := by
  rw [callN_succ]
  refine ⟨d__law_turns, rfl, rfl, ?_⟩
  show wpSs _ _ b__law_turns _ [some (2, shD sh), none, none, none, none] _
  rw [wpSs_split 1]
  generalize hE : Ends.mk _ _ _ _ _ = E1
  dsimp only [b__law_turns, List.take]
  get_elem_tactic_trivial
  rw [← hE]
  show wpSs _ _ (.for_ [2, 3] (.var 2) (.seq (.call "_law_need" [true, false] [.var 0, .bin .sub (.blt .len [.var 0]) (.lit (.int 1))])) ltB :: b__law_turns.drop 2) _ [some (2, shD sh), some (1, .dic (kvT sh [])), none, none, none] μ
  rw [wpSs_cons, wpS_for, wpI_seq]
  get_elem_tactic_trivial
  rw [last_int h1]
  refine lneed_ok wf (by omega) hs ?_
  get_elem_tactic_trivial
  have pw : (ND sh (sh.length - 1)).Pairwise (· < ·) := ND_pw
  have mm : ∀ x, x ∈ ND sh (sh.length - 1) ↔ Rch sh (sh.length - 1) x := fun x => mem_ND wf
  have hlen : (ND sh (sh.length - 1)).length ≤ sh.length - 1 + 1 := ND_len
  refine for_ok (fun pre tl env ν => ν = μ ∧ ∃ (pn rest : List Nat), ND sh (sh.length - 1) = pn ++ rest ∧ tl = iD rest ∧ env = [some (2, shD sh), some (1, .dic (kvT sh (pn.filter (lkA sh)))), none, none, none]) ⟨rfl, [], _, rfl, rfl, rfl⟩ ?_ ?_
  · rintro pre x tl env ν K' ⟨rfl, pn, rest, hnd, htl, rfl⟩ hk
    obtain ⟨n, rest', rfl⟩ : ∃ a c, rest = a :: c := by
      cases rest with
      | nil => cases htl
      | cons a c => exact ⟨a, c, rfl⟩
    rw [show iD (n :: rest') = .int (n : Int) :: iD rest' from rfl] at htl
    injection htl with e3 e4
    subst e3
    rw [hnd] at pw mm hlen
    have hr : Rch sh (sh.length - 1) n := (mm n).mp (by simp)
    have hn : n < sh.length := hr.lt wf (by omega)
    have hln : sh[n]? = some sh[n] := List.getElem?_eq_getElem hn
    have hnp : n ∉ pn := fun hin => by
      have := (List.pairwise_append.mp pw).2.2 n hin n List.mem_cons_self
      omega
    show wpSs (callN Pg (d + 2)) Pg.gl ltB _ [some (2, shD sh), some (1, .dic (kvT sh (pn.filter (lkA sh)))), some (0, .int (n : Int)), none, none] ν
    refine lturns_lap wf hs hln (fun x hx => ?_) (fun q => hnp (List.mem_filter.mp q).1) ?_ fun s3 => ?_
    · have hx := (mem_ND wf).mp hx
      have hle := hx.le wf
      constructor
      · intro q
        obtain ⟨q1, q2⟩ := List.mem_filter.mp q
        exact ⟨fun e => hnp (e ▸ q1), q2⟩
      · rintro ⟨q1, q2⟩
        exact List.mem_filter.mpr ⟨pw_split pw ((mm x).mpr (hr.trans hx)) (by omega), q2⟩
    · have := List.length_filter_le (lkA sh) pn
      rw [List.length_append] at hlen
      omega
    · refine hk _ _ ⟨rfl, pn ++ [n], rest', by rw [hnd]; simp, e4, ?_⟩
      rw [List.filter_append]
      by_cases c : lkA sh n = true
      · rw [if_pos c, List.filter_cons, if_pos c]; rfl
      · rw [if_neg c, List.filter_cons, if_neg c, List.filter_nil, List.append_nil]; rfl
  · rintro pre env ν ⟨rfl, pn, rest, hnd, htl, rfl⟩
    obtain rfl : rest = [] := by
      cases rest with
      | nil => rfl
      | cons a c => cases htl
    rw [List.append_nil] at hnd
    have hl2 := List.length_filter_le (lkA sh) pn
    rw [hnd] at hlen
    dsimp only [b__law_turns, List.drop]
    get_elem_tactic_trivial
    refine ⟨by show _ ≤ 16777216; omega, 0 :: (pn.filter (lkA sh)).map (Tn sh), ?_, by simp, ?_⟩
    · rw [← intsOf_map (0 :: (pn.filter (lkA sh)).map (Tn sh)), List.map_cons, List.map_map, List.map_map]
      rfl
    · rw [← hnd]
      exact post
end
end Law

set_option autoImplicit false
set_option linter.all false
set_option maxRecDepth 10000
namespace Law
open Pv
local macro_rules | `(tactic| get_elem_tactic_trivial) => `(tactic| simp (maxSteps := 2000000) only [wpE_lit, wpE_var, wpE_glob, wpE_tup, wpE_lst, wpE_dnew, wpE_dict, wpE_lrange, wpE_lrange2, wpE_denum2, wpE_sset, wpE_ssetS, wpE_state, wpE_neg, wpE_bin, wpE_cmp, wpE_chain, wpE_and, wpE_or, wpE_not, wpE_ite, wpE_idx, wpE_slice, wpE_rev, wpE_stepS, wpE_call, wpE_blt, wpE_dget, wpE_dget2, wpE_mut, wpE_mutF, wpE_comp, wpE_dict1, wpE_dcomp, wpE_dvals, wpE_indexOf, wpE_tupS, wpE_lstS, wpE_isInst, wpE_gget, wpE_gget2, wpE_gidx, wpE_gmem, wpE_gcd, wpLS_nil, wpLS_star, wpLS_one, wpI_rngD, wpI_rngL, wpI_zip, wpI_items, wpI_keys, bin_bor, bin_band, bin_shl, bin_shr, blt_sum, blt_all, blt_any, blt_maxL, blt_minL, blt_minP,
  wpL_nil, wpL_cons, wpF_nil, wpF_cons, wpA_nil, wpA_lent, wpA_fz, wpB_one, wpB_cons, wpO_none, wpO_some, wpC_nil, wpC_cons, wpI_seq, wpI_rng, wpI_rng2, wpI_enum, wpP_nil, wpP_cons, wpSs_nil, wpSs_cons, wpS_expr, wpS_assign, wpS_par, wpS_setIdx, wpS_aug, wpS_retN, wpS_ret, wpS_ite, wpS_for, wpS_while, wpS_brk, wpS_cont, wpS_pass,
  giveT_var, giveT_tup, giveL_nil, giveL_cons, give_fz, give_fresh, give_bor, esc_fz, esc_fresh, esc_bor, escI_fz, escI_fresh, escI_bor, kept_fz, kept_fresh, kept_bor, retK_fz, retK_fresh, retK_bor,
  List.getElem?_cons_zero, List.getElem?_cons_succ, List.getElem?_nil, List.set_cons_zero, List.set_cons_succ, List.foldl_cons, List.foldl_nil, List.zip_cons_cons, List.zip_nil_left, List.zip_nil_right, List.zipWith_cons_cons, List.zipWith_nil_left, List.zipWith_nil_right, List.length_cons, List.length_nil, List.replicate, List.cons_append, List.nil_append, List.set_nil, wipeE, back, back,
  Option.some.injEq, Prod.mk.injEq, exists_and_left, exists_eq_left', exists_eq_right', exists_eq', and_true, true_and, and_assoc, if_true, if_false, ↓reduceIte, reduceCtorEq, false_and, and_false, exists_false, or_false, false_or, D.int.injEq, D.str.injEq, D.tup.injEq, D.lst.injEq, D.dic.injEq, D.ref.injEq, D.bl.injEq, List.cons.injEq,
  getF, setF, List.find?_cons, List.find?_nil, Option.map_some, Option.map_none, tru_bl, tru_int, tru_non, tru_tup, tru_lst, tru_str, bin_add_int, bin_sub_int, bin_mul_int, bin_fdiv_int, bin_mod_int, bin_pow_int, bin_add_str, bin_add_lst, bin_add_tup, bin_mul_lst, bin_mul_tup, cmp_lt_int, cmp_le_int, cmp_gt_int, cmp_ge_int, cmp_lt_str, cmp_le_str, cmp_gt_str, cmp_ge_str, cmp_eq_rep, cmp_ne_rep, cmp_eq_int, cmp_eq_str, cmp_eq_tup, cmp_eq_lst, cmp_eq_bl, cmp_ne_int, cmp_ne_str, cmp_ne_tup, cmp_ne_lst, cmp_ne_bl, cmp_mem, cmp_notMem, mem_tup, mem_lst, mem_dic, idx_tup, idx_lst, idx_str, idx_dic_int, idx_dic_str, idx_ref, isKey_int, isKey_str, blt_len_tup, blt_len_lst, blt_len_dic, blt_len_str, blt_abs, blt_int, blt_int_bl, blt_max, blt_min, blt_list_lst, blt_list_tup, blt_tuple_lst, blt_tuple_tup, blt_repr, blt_sorted, kind_int, kind_str, kind_bl, kind_tup, kind_rep, kind_non, kind_lst, kind_dic, optI_none, optI_some, slice_tup, slice_lst, slice_str, rev_lst, rev_tup, items_tup, items_lst, mut_append, mut_pop, mut_popAt, mut_extend, set_lst, set_dic, Nat.reduceSub, Nat.reduceAdd, nil_beq, eq_self, Nat.reduceBEq, List.cons_beq_cons, List.isEmpty_cons, List.isEmpty_nil, Bool.and_true, Bool.and_false, Bool.true_and, Bool.false_and, Bool.not_true, Bool.not_false, Bool.false_eq_true, List.map_cons, List.map_nil, decide_eq_true_eq, Nat.reduceEqDiff])
section
variable {d : Nat} {μ : Store} {Q : Nat → D → Store → Prop} {X : D → Store → Prop} {sh : List Ln} {l : Ln} {i k p m : Nat} {w : List Nat}
def needBody : List S := match b__law_part with | _ :: .for_ _ _ _ b :: _ => b | _ => []
theorem need_loop (wf : Wf sh) (hk : k < sh.length) (hs : sh.length < 10000) {tl : Env} {E : Ends} {K : Env → Store → Prop}
    (e : ∀ acc, (∀ x, x ∈ acc ↔ Rch sh k x) → acc.length ≤ 2 * k + 3 → K (some (2, shD sh) :: some (0, .int (k : Int)) :: some (1, lN acc) :: none :: none :: tl) μ) :
    forLoop (fun x env1 μ1 K => giveT (.var 3) .fz x env1 fun env2 => wpSs (callN Pg (d + 1)) Pg.gl needBody { E with nx := fun e3 μ3 => K (wipeE e3 [3]) μ3, ct := fun e3 μ3 => K (wipeE e3 [3]) μ3, bk := fun e3 μ3 => E.nx (wipeE e3 [3]) μ3 } env2 μ1)
      (downL (k : Int) (k + 1)) (some (2, shD sh) :: some (0, .int (k : Int)) :: some (1, lN [k]) :: none :: none :: tl) μ K := by
  refine for_ok (fun pre post env ν => ν = μ ∧ ∃ n ms, post = (downL (k : Int) (k + 1)).drop n ∧ n ≤ k + 1 ∧ MtL sh k n ms ∧ env = (some (2, shD sh) :: some (0, .int (k : Int)) :: some (1, lN ms) :: none :: none :: tl)) ⟨rfl, 0, [k], rfl, Nat.zero_le _, MtL.start, rfl⟩ ?_ ?_
  · rintro pre x tl' env ν K' ⟨rfl, n, ms, hp, hn, hm, rfl⟩ hk'
    obtain ⟨hn, rfl, rfl⟩ := down_step hp
    obtain ⟨q, hq⟩ : ∃ q : Nat, q = k - n := ⟨_, rfl⟩
    have eq : (k : Int) - (n : Int) = (q : Int) := by omega
    rw [eq]
    have hql : q < sh.length := by omega
    have hl := List.getElem?_eq_getElem hql
    have em : sh[q].mem = memAt sh q := by unfold memAt; rw [hl]
    have hlen := hm.len
    unfold needBody b__law_part
    get_elem_tactic_trivial
    refine ⟨_, atI_sh hl, lmembers_ok (wf _ _ hl) ⟨_, rfl, rfl, ?_⟩⟩
    rw [em]
    refine comp_fm (memAt sh q) (fun (m : Nat) => D.int (m : Int)) (fun (m : Nat) => if q ∈ ms ∧ m ∉ ms then some (D.int (m : Int)) else none) (fun m hm' K'' hk2 => ?_) (by have := mem_len wf (k := q); show _ ≤ 16777216; omega) ?_
    · get_elem_tactic_trivial
      refine ⟨rfl, ?_⟩
      rw [any_iD, any_iD]
      refine ⟨plain_iD _ _, ?_⟩
      by_cases h1 : q ∈ ms
      · rw [decide_eq_true h1, if_pos rfl]
        refine ⟨rfl, plain_iD _ _, ?_⟩
        by_cases h2 : m ∈ ms
        · rw [if_neg (fun z => z.2 h2)] at hk2
          rw [decide_eq_true h2]
          exact hk2
        · rw [if_pos ⟨h1, h2⟩] at hk2
          rw [decide_eq_false h2]
          exact hk2
      · rw [if_neg (fun z => h1 z.1)] at hk2
        rw [decide_eq_false h1]
        exact hk2
    · get_elem_tactic_trivial
      have ef : (memAt sh q).filterMap (fun (m : Nat) => if q ∈ ms ∧ m ∉ ms then some (D.int (m : Int)) else none) = iD (if q ∈ ms then (memAt sh q).filter fun m => decide (m ∉ ms) else []) := by
        by_cases h1 : q ∈ ms
        · rw [if_pos h1]
          induction memAt sh q with
          | nil => rfl
          | cons x r ih =>
            rw [List.filterMap_cons, List.filter_cons]
            by_cases h2 : x ∈ ms
            · rw [if_neg (fun z => z.2 h2), if_neg (by simpa using h2)]; exact ih
            · rw [if_pos ⟨h1, h2⟩, if_pos (by simpa using h2)]
              show _ :: _ = _ :: _
              rw [ih]
        · rw [if_neg h1]
          induction memAt sh q with
          | nil => rfl
          | cons x r ih =>
            rw [List.filterMap_cons, if_neg (fun z => h1 z.1)]; exact ih
      rw [ef]
      have ea : ∀ r : List Nat, iD ms ++ iD r = iD (ms ++ r) := fun r => by simp
      rw [ea]
      by_cases h1 : q ∈ ms
      · rw [if_pos h1]
        have hm' := hm.next wf (by rw [← hq]; exact h1) (by omega)
        rw [← hq] at hm'
        have h2 := hm'.len
        rw [List.length_append] at h2
        refine ⟨by rw [List.length_map, List.length_map]; show _ ≤ 16777216; omega, hk' _ _ ⟨rfl, n + 1, _, rfl, hn, hm', rfl⟩⟩
      · rw [if_neg h1, List.append_nil]
        refine ⟨by rw [List.length_map]; show _ ≤ 16777216; simp; omega, hk' _ _ ⟨rfl, n + 1, ms, rfl, hn, hm.skip (by rw [← hq]; exact h1) (by omega), rfl⟩⟩
  · rintro pre env ν ⟨rfl, n, ms, hp, hn, hm, rfl⟩
    have hn := down_end hp hn
    subst hn
    exact e ms hm.all (by have := hm.len; omega)
theorem part_ok (wf : Wf sh) (hk : k < sh.length) (hs : sh.length ≤ 63) (post : Q 0 (shD (part sh k)) μ) : callN Pg (d + 2) "_law_part" [shD sh, .int (k : Int)] μ Q X := by
  rw [callN_succ]
  refine ⟨d__law_part, rfl, rfl, ?_⟩
  show wpSs _ _ b__law_part _ [some (2, shD sh), some (0, .int (k : Int)), none, none, none, none, none] _
  rw [wpSs_split 1]
  generalize hE0 : Ends.mk _ _ _ _ _ = E0
  dsimp only [b__law_part, List.take]
  get_elem_tactic_trivial
  rw [← hE0]
  dsimp only [b__law_part, List.drop]
  rw [wpSs_cons, wpS_for, wpI_rngD, wpE_var]
  refine ⟨0, .int (k : Int), rfl, ?_⟩
  rw [wpE_neg, wpE_lit]
  refine ⟨1, rfl, _, _, ⟨rfl, rfl⟩, ⟨by omega, by omega, by omega, by omega⟩, ?_⟩
  rw [show ((k : Int) - -1).toNat = k + 1 by omega]
  refine need_loop wf hk (by omega) (tl := [none, none]) fun acc ha hl => ?_
  show wpSs _ _ _ _ _ _
  rw [wpSs_split 1]
  generalize hE1 : Ends.mk _ _ _ _ _ = E1
  dsimp only [List.take, List.drop]
  get_elem_tactic_trivial
  refine sset_ND wf hk hs ha hl ?_
  have hlen : (ND sh k).length ≤ k + 1 := ND_len
  rw [← hE1]
  dsimp only [List.drop]
  get_elem_tactic_trivial
  refine for_ok (fun pre post env ν => ν = μ ∧ ∃ n, n ≤ (ND sh k).length ∧ post = iD ((ND sh k).drop n) ∧ env = [some (2, shD sh), some (0, .int (k : Int)), some (0, lN (ND sh k)), none, none, some (1, .lst (((part sh k).take n).map Ln.toD)), none]) ⟨rfl, 0, Nat.zero_le _, rfl, rfl⟩ ?_ ?_
  · rintro pre x tl env ν K' ⟨rfl, n, hn, hp, rfl⟩ hk'
    have hn : n < (ND sh k).length := by
      rcases Nat.lt_or_ge n (ND sh k).length with h | h
      · exact h
      · rw [List.drop_eq_nil_of_le h] at hp; cases hp
    rw [List.drop_eq_getElem_cons hn] at hp
    obtain ⟨rfl, rfl⟩ := List.cons.inj hp
    have hx : Rch sh k (ND sh k)[n] := (mem_ND wf).mp (List.getElem_mem hn)
    generalize hq : (ND sh k)[n] = q at hx
    have hql := hx.lt wf hk
    have hl' := List.getElem?_eq_getElem hql
    have wfl := wf _ _ hl'
    have em : sh[q].mem = memAt sh q := by unfold memAt; rw [hl']
    have hnp : n < (part sh k).length := by rw [part_len]; exact hn
    have hpn : (part sh k)[n] = (sh[q]).ren fun n => (ND sh k).idxOf n := by
      have : (part sh k)[n]? = some ((sh[q]).ren fun n => (ND sh k).idxOf n) := by
        unfold part
        rw [List.getElem?_map, List.getElem?_eq_getElem hn, hq]
        show some ((lineAt sh q).ren _) = _
        rw [line_at hl']
      exact (List.getElem?_eq_some_iff.mp this).2
    have fin : K' [some (2, shD sh), some (0, .int (k : Int)), some (0, lN (ND sh k)), none, none, some (1, .lst (((part sh k).take n).map Ln.toD ++ [((sh[q]).ren fun n => (ND sh k).idxOf n).toD])), none] ν := by
      refine hk' _ _ ⟨rfl, n + 1, hn, rfl, ?_⟩
      rw [List.take_succ_eq_append_getElem hnp, List.map_append, hpn]
      rfl
    get_elem_tactic_trivial
    refine ⟨_, atI_sh hl', lmembers_ok wfl ⟨_, rfl, rfl, ?_⟩⟩
    rw [em]
    refine comp_map (memAt sh q) (fun (m : Nat) => D.int (m : Int)) (fun (m : Nat) => D.int (((ND sh k).idxOf m : Nat) : Int)) (fun m hm K2 hk2 => ?_) (by have := mem_len wf (k := q); show _ ≤ 16777216; omega) ?_
    · get_elem_tactic_trivial
      exact ⟨rfl, plain_iD _ _, _, find_iD ((mem_ND wf).mpr (.step hx hm)), hk2⟩
    · get_elem_tactic_trivial
      have e1 : (memAt sh q).map (fun (m : Nat) => D.int (((ND sh k).idxOf m : Nat) : Int)) = iD ((memAt sh q).map fun m => (ND sh k).idxOf m) := by simp
      have hbig : (List.map Ln.toD (List.take n (part sh k))).length < big := by
        rw [List.length_map, List.length_take, part_len]
        show _ < 16777216
        omega
      rw [e1, pyEqL_nil, ← em]
      refine ⟨plain_iD _ _, rfl, ?_⟩
      generalize sh[q] = ln at *
      cases ln with
      | letter s => exact ⟨_, atI_sh hl', hbig, fin⟩
      | yes => exact ⟨_, atI_sh hl', hbig, fin⟩
      | op w ms =>
        cases ms with
        | nil => exact ⟨_, atI_sh hl', hbig, fin⟩
        | cons m0 mr =>
          refine ⟨_, atI_sh hl', ?_⟩
          rw [toD_op, slice_tup]
          show kept _ _ _ _ _ ∧ bin .add (.tup (cut (_ :: _) none (some 1))) _ _
          rw [cut01, bin_add_tup]
          have := wfl.2.1
          refine ⟨trivial, ?_, _, rfl, hbig, fin⟩
          simp only [Ln.mem, List.length_map, List.length_cons, List.length_nil, big] at this ⊢
          omega
  · rintro pre env ν ⟨rfl, n, hn, hp, rfl⟩
    have hn : n = (ND sh k).length := by
      have := congrArg List.length hp
      simp at this
      omega
    subst hn
    rw [← part_len, List.take_length]
    get_elem_tactic_trivial
    exact post
end
end Law

set_option autoImplicit false
set_option linter.all false
set_option maxRecDepth 10000
set_option maxHeartbeats 1000000
namespace Law
open Pv
local macro_rules | `(tactic| get_elem_tactic_trivial) => `(tactic| simp (maxSteps := 2000000) only [wpE_lit, wpE_var, wpE_glob, wpE_tup, wpE_lst, wpE_dnew, wpE_dict, wpE_lrange, wpE_lrange2, wpE_denum2, wpE_sset, wpE_ssetS, wpE_state, wpE_neg, wpE_bin, wpE_cmp, wpE_chain, wpE_and, wpE_or, wpE_not, wpE_ite, wpE_idx, wpE_slice, wpE_rev, wpE_stepS, wpE_call, wpE_blt, wpE_dget, wpE_dget2, wpE_mut, wpE_mutF, wpE_comp, wpE_dict1, wpE_dcomp, wpE_dvals, wpE_indexOf, wpE_tupS, wpE_lstS, wpE_isInst, wpE_gget, wpE_gget2, wpE_gidx, wpE_gmem, wpE_gcd, wpLS_nil, wpLS_star, wpLS_one, wpI_rngD, wpI_rngL, wpI_zip, wpI_items, wpI_keys, bin_bor, bin_band, bin_shl, bin_shr, blt_sum, blt_all, blt_any, blt_maxL, blt_minL, blt_minP, blt_sortP,
  wpL_nil, wpL_cons, wpF_nil, wpF_cons, wpA_nil, wpA_lent, wpA_fz, wpB_one, wpB_cons, wpO_none, wpO_some, wpC_nil, wpC_cons, wpI_seq, wpI_rng, wpI_rng2, wpI_enum, wpP_nil, wpP_cons, wpSs_nil, wpSs_cons, wpS_expr, wpS_assign, wpS_par, wpS_setIdx, wpS_aug, wpS_retN, wpS_ret, wpS_ite, wpS_for, wpS_while, wpS_brk, wpS_cont, wpS_pass,
  giveT_var, giveT_tup, giveL_nil, giveL_cons, give_fz, give_fresh, give_bor, esc_fz, esc_fresh, esc_bor, escI_fz, escI_fresh, escI_bor, kept_fz, kept_fresh, kept_bor, retK_fz, retK_fresh, retK_bor,
  List.getElem?_cons_zero, List.getElem?_cons_succ, List.getElem?_nil, List.set_cons_zero, List.set_cons_succ, List.foldl_cons, List.foldl_nil, List.zip_cons_cons, List.zip_nil_left, List.zip_nil_right, List.zipWith_cons_cons, List.zipWith_nil_left, List.zipWith_nil_right, List.length_cons, List.length_nil, List.replicate, List.cons_append, List.nil_append, List.set_nil, wipeE, back, back,
  Option.some.injEq, Prod.mk.injEq, exists_and_left, exists_eq_left', exists_eq_right', exists_eq', and_true, true_and, and_assoc, if_true, if_false, ↓reduceIte, reduceCtorEq, false_and, and_false, exists_false, or_false, false_or, D.int.injEq, D.str.injEq, D.tup.injEq, D.lst.injEq, D.dic.injEq, D.ref.injEq, D.bl.injEq, List.cons.injEq,
  getF, setF, List.find?_cons, List.find?_nil, Option.map_some, Option.map_none, tru_bl, tru_int, tru_non, tru_tup, tru_lst, tru_str, bin_add_int, bin_sub_int, bin_mul_int, bin_fdiv_int, bin_mod_int, bin_pow_int, bin_add_str, bin_add_lst, bin_add_tup, bin_mul_lst, bin_mul_tup, cmp_lt_int, cmp_le_int, cmp_gt_int, cmp_ge_int, cmp_lt_str, cmp_le_str, cmp_gt_str, cmp_ge_str, cmp_eq_rep, cmp_ne_rep, cmp_eq_int, cmp_eq_str, cmp_eq_tup, cmp_eq_lst, cmp_eq_bl, cmp_ne_int, cmp_ne_str, cmp_ne_tup, cmp_ne_lst, cmp_ne_bl, cmp_mem, cmp_notMem, mem_tup, mem_lst, mem_dic, idx_tup, idx_lst, idx_str, idx_dic_int, idx_dic_str, idx_ref, isKey_int, isKey_str, blt_len_tup, blt_len_lst, blt_len_dic, blt_len_str, blt_abs, blt_int, blt_int_bl, blt_max, blt_min, blt_list_lst, blt_list_tup, blt_tuple_lst, blt_tuple_tup, blt_repr, blt_sorted, kind_int, kind_str, kind_bl, kind_tup, kind_rep, kind_non, kind_lst, kind_dic, optI_none, optI_some, slice_tup, slice_lst, slice_str, rev_lst, rev_tup, items_tup, items_lst, mut_append, mut_pop, mut_popAt, mut_extend, set_lst, set_dic, Nat.reduceSub, Nat.reduceAdd, nil_beq, eq_self, Nat.reduceBEq, List.cons_beq_cons, List.isEmpty_cons, List.isEmpty_nil, Bool.and_true, Bool.and_false, Bool.true_and, Bool.false_and, Bool.not_true, Bool.not_false, Bool.false_eq_true, List.map_cons, List.map_nil, decide_eq_true_eq, Nat.reduceEqDiff, atI_c0, atI_c1, atI_c2, atI_c3, cut_c1, List.length_map, Int.toNat_natCast, and_self, List.map_append])
section
variable {d : Nat} {μ : Store} {Q : Nat → D → Store → Prop} {X : D → Store → Prop} {E : Ends} {sh P f : List Ln} {k n m x i j : Nat} {pl : List Nat} {ln a b : Ln}
theorem pyEqL_iD : ∀ (a b : List Nat), pyEqL (iD a) (iD b) = true ↔ a = b
  | [], [] => ⟨fun _ => rfl, fun _ => rfl⟩
  | [], _ :: _ => ⟨fun h => (nomatch h), fun h => (nomatch h)⟩
  | _ :: _, [] => ⟨fun h => (nomatch h), fun h => (nomatch h)⟩
  | x :: r, y :: s => by
    show ((x : Int) == (y : Int) && pyEqL (iD r) (iD s)) = true ↔ _
    rw [Bool.and_eq_true, pyEqL_iD r s, beq_iff_eq, List.cons.injEq]
    constructor
    · rintro ⟨h1, h2⟩; exact ⟨by omega, h2⟩
    · rintro ⟨h1, h2⟩; exact ⟨by omega, h2⟩
theorem pyEq_toD (ha : WfL i a) (hb : WfL j b) : pyEq a.toD b.toD = true ↔ a = b := by
  have ne1 : ∀ w, okw w → (kLetter == w) = false ∧ (w == kLetter) = false ∧ (kYes == w) = false ∧ (w == kYes) = false := fun w h => by
    rcases h with rfl | rfl | rfl | rfl | rfl <;> decide
  cases a with
  | letter s =>
    cases b with
    | letter t =>
      show (kLetter == kLetter && (s == t && true)) = true ↔ _
      rw [beq_self_eq_true, Bool.true_and, Bool.and_true, beq_iff_eq]
      exact ⟨fun h => by rw [h], fun h => by cases h; rfl⟩
    | yes => exact ⟨fun h => (nomatch h), fun h => (nomatch h)⟩
    | op w ms =>
      show (kLetter == w && pyEqL [.str s] (iD ms)) = true ↔ _
      rw [(ne1 w hb.1).1]
      exact ⟨fun h => (nomatch h), fun h => (nomatch h)⟩
  | yes =>
    cases b with
    | letter t => exact ⟨fun h => (nomatch h), fun h => (nomatch h)⟩
    | yes => exact ⟨fun _ => rfl, fun _ => rfl⟩
    | op w ms =>
      show (kYes == w && pyEqL [] (iD ms)) = true ↔ _
      rw [(ne1 w hb.1).2.2.1]
      exact ⟨fun h => (nomatch h), fun h => (nomatch h)⟩
  | op w ms =>
    cases b with
    | letter t =>
      show (w == kLetter && pyEqL (iD ms) [.str t]) = true ↔ _
      rw [(ne1 w ha.1).2.1]
      exact ⟨fun h => (nomatch h), fun h => (nomatch h)⟩
    | yes =>
      show (w == kYes && pyEqL (iD ms) []) = true ↔ _
      rw [(ne1 w ha.1).2.2.2]
      exact ⟨fun h => (nomatch h), fun h => (nomatch h)⟩
    | op w' ms' =>
      show (w == w' && pyEqL (iD ms) (iD ms')) = true ↔ _
      rw [Bool.and_eq_true, pyEqL_iD, beq_iff_eq]
      exact ⟨fun ⟨h1, h2⟩ => by rw [h1, h2], fun h => by cases h; exact ⟨rfl, rfl⟩⟩
theorem plainL_of : ∀ (l : List D) (n : Nat), (∀ x ∈ l, plain x n = true) → plainL l n = true
  | [], n, _ => rfl
  | x :: r, n, h => by
    show (plain x n && plainL r n) = true
    rw [h x List.mem_cons_self, plainL_of r n fun y hy => h y (List.mem_cons_of_mem _ hy)]
    rfl
theorem plain_toD (wf : WfL i a) (n : Nat) : plain a.toD (n + 1) = true := by
  cases a with
  | letter s =>
    refine plainL_of [.str kLetter, .str s] n fun x hx => ?_
    simp only [List.mem_cons, List.not_mem_nil, or_false] at hx
    rcases hx with rfl | rfl
    · rfl
    · exact wf
  | yes => rfl
  | op w ms =>
    refine plainL_of (.str w :: iD ms) n fun x hx => ?_
    rcases List.mem_cons.mp hx with rfl | hx
    · exact okw_S wf.1
    · obtain ⟨m, hm, rfl⟩ := List.mem_map.mp hx; rfl
/-! ### lines told twice are told once -/
structure Td (P : List Ln) (i : Nat) (f : List Ln) (pl : List Nat) : Prop where
  wf : Wf f
  len : pl.length = i
  fl : f.length ≤ i
  lt : ∀ j x : Nat, pl[j]? = some x → x < f.length
  ln : ∀ (j x : Nat) (l : Ln), pl[j]? = some x → P[j]? = some l → f[x]? = some (l.ren fun n => pl.getD n 0)
  onto : ∀ x, x < f.length → ∃ j : Nat, pl[j]? = some x
theorem ren_congr {g h : Nat → Nat} (e : ∀ m ∈ a.mem, g m = h m) : a.ren g = a.ren h := by
  cases a with
  | letter s => rfl
  | yes => rfl
  | op w ms => exact congrArg (Ln.op w) (List.map_congr_left e)
theorem getD_app {l : List Nat} {y : Nat} (h : n < l.length) : (l ++ [y]).getD n 0 = l.getD n 0 := by
  rw [List.getD_eq_getElem?_getD, List.getD_eq_getElem?_getD, List.getElem?_append_left h]
theorem WfL.ren {g : Nat → Nat} (h : WfL i a) (hg : ∀ m ∈ a.mem, g m < j) : WfL j (a.ren g) := by
  cases a with
  | letter s => exact h
  | yes => trivial
  | op w ms =>
    refine ⟨h.1, by rw [List.length_map]; exact h.2.1, fun m hm => ?_, by rw [List.length_map]; exact h.2.2.2⟩
    obtain ⟨n, hn, rfl⟩ := List.mem_map.mp hm
    exact hg n hn
theorem mem_lt' (wf : WfL i a) : ∀ m ∈ a.mem, m < i := fun m hm => by
  cases a with
  | letter s => cases hm
  | yes => cases hm
  | op w ms => exact wf.2.2.1 m hm
theorem Td.new (wP : Wf P) (h : Td P i f pl) (hl : P[i]? = some a) : WfL f.length (a.ren fun n => pl.getD n 0) :=
  (wP i a hl).ren fun m hm => by
    have hm := mem_lt' (wP i a hl) m hm
    have e : pl[m]? = some (pl.getD m 0) := by
      rw [List.getD_eq_getElem?_getD, List.getElem?_eq_getElem (by rw [h.len]; exact hm)]; rfl
    exact h.lt m _ e
theorem Td.step (wP : Wf P) (h : Td P i f pl) (hl : P[i]? = some a) {f' : List Ln} (hf : f' = f ∧ (a.ren fun n => pl.getD n 0) ∈ f ∨ f' = f ++ [a.ren fun n => pl.getD n 0]) (hx : f'[x]? = some (a.ren fun n => pl.getD n 0))
    (hx2 : f' = f ++ [a.ren fun n => pl.getD n 0] → x = f.length) : Td P (i + 1) f' (pl ++ [x]) := by
  have wfa := wP i a hl
  have pre : ∀ y, y < f.length → f'[y]? = f[y]? := fun y hy => by
    rcases hf with ⟨e, _⟩ | e
    · rw [e]
    · rw [e, List.getElem?_append_left hy]
  have le : f.length ≤ f'.length := by
    rcases hf with ⟨e, _⟩ | e
    · rw [e]; exact Nat.le_refl _
    · rw [e, List.length_append]; exact Nat.le_add_right _ _
  have cases' : ∀ j y, (pl ++ [x])[j]? = some y → (j < i ∧ pl[j]? = some y) ∨ (j = i ∧ y = x) := fun j y e => by
    by_cases c : j < pl.length
    · rw [List.getElem?_append_left c] at e
      exact .inl ⟨by rw [← h.len]; exact c, e⟩
    · rw [List.getElem?_append_right (by omega)] at e
      have hj : j - pl.length = 0 := by
        by_cases z : j - pl.length = 0
        · exact z
        · rw [List.getElem?_eq_none (by simp; omega)] at e; cases e
      rw [hj] at e
      exact .inr ⟨by have := h.len; omega, (Option.some.inj e).symm⟩
  refine ⟨?_, by rw [List.length_append, h.len]; rfl, ?_, fun j y e => ?_, fun j y l e hl' => ?_, fun y hy => ?_⟩
  · rcases hf with ⟨e, _⟩ | e
    · rw [e]; exact h.wf
    · rw [e]; exact h.wf.snoc (h.new wP hl)
  · have := h.fl
    rcases hf with ⟨e, _⟩ | e
    · rw [e]; omega
    · rw [e, List.length_append, List.length_singleton]; omega
  · rcases cases' j y e with ⟨_, e⟩ | ⟨_, e⟩
    · exact Nat.lt_of_lt_of_le (h.lt j y e) le
    · rw [e]; exact (List.getElem?_eq_some_iff.mp hx).1
  · rcases cases' j y e with ⟨hj, e⟩ | ⟨hj, e⟩
    · rw [pre y (h.lt j y e), h.ln j y l e hl']
      congr 1
      refine ren_congr fun m hm => ?_
      have := mem_lt' (wP j l hl') m hm
      exact (getD_app (by rw [h.len]; omega)).symm
    · subst hj
      rw [hl] at hl'; cases hl'
      rw [e, hx]
      congr 1
      refine ren_congr fun m hm => ?_
      have := mem_lt' wfa m hm
      exact (getD_app (by rw [h.len]; omega)).symm
  · by_cases c : y < f.length
    · obtain ⟨j, hj⟩ := h.onto y c
      exact ⟨j, by rw [List.getElem?_append_left (List.getElem?_eq_some_iff.mp hj).1]; exact hj⟩
    · rcases hf with ⟨e, _⟩ | e
      · rw [e] at hy; exact absurd hy c
      · refine ⟨pl.length, ?_⟩
        rw [List.getElem?_append_right (Nat.le_refl _), Nat.sub_self]
        have h1 : y = f.length := by rw [e, List.length_append, List.length_singleton] at hy; omega
        rw [h1, hx2 e]; rfl
theorem ren_word {g : Nat → Nat} : (a.ren g).word = a.word := by cases a <;> rfl
theorem ren_mem {g : Nat → Nat} : (a.ren g).mem = a.mem.map g := by cases a <;> rfl
theorem Td.mor (wP : Wf P) (h : Td P P.length f pl) (hk : k < P.length) : Mor P f (fun n => pl.getD n 0) k := by
  have at' : ∀ x, Rch P k x → ∃ l, P[x]? = some l ∧ f[pl.getD x 0]? = some (l.ren fun n => pl.getD n 0) := fun x hx => by
    have hxl := hx.lt wP hk
    refine ⟨_, List.getElem?_eq_getElem hxl, h.ln x _ _ ?_ (List.getElem?_eq_getElem hxl)⟩
    rw [List.getD_eq_getElem?_getD, List.getElem?_eq_getElem (by rw [h.len]; exact hxl)]; rfl
  have wd : ∀ x, Rch P k x → wordAt f (pl.getD x 0) = wordAt P x := fun x hx => by
    obtain ⟨l, h1, h2⟩ := at' x hx
    rw [word_at h1, word_at h2, ren_word]
  refine ⟨wP, h.wf, fun x hx => ?_, fun x hx => ?_, fun x y hx hy _ _ => ?_⟩
  · show lkA f (pl.getD x 0) = _
    unfold lkA; rw [wd x hx]
  · obtain ⟨l, h1, h2⟩ := at' x hx
    show memAt f (pl.getD x 0) = _
    rw [mem_at h1, mem_at h2, ren_mem]
  · show wordAt f (pl.getD x 0) = wordAt f (pl.getD y 0) ↔ _
    rw [wd x hx, wd y hy]
theorem part_mor (wf : Wf sh) (hk : k < sh.length) : Mor sh (part sh k) (fun n => (ND sh k).idxOf n) k := by
  have at' : ∀ x, Rch sh k x → ∃ l, sh[x]? = some l ∧ (part sh k)[(ND sh k).idxOf x]? = some (l.ren fun n => (ND sh k).idxOf n) := fun x hx => by
    have hxl := hx.lt wf hk
    have hin := (mem_ND wf).mpr hx
    refine ⟨_, List.getElem?_eq_getElem hxl, ?_⟩
    unfold part
    rw [List.getElem?_map, List.getElem?_eq_getElem (List.idxOf_lt_length_iff.mpr hin), List.getElem_idxOf]
    show some ((lineAt sh x).ren _) = _
    rw [line_at (List.getElem?_eq_getElem hxl)]
  have wd : ∀ x, Rch sh k x → wordAt (part sh k) ((ND sh k).idxOf x) = wordAt sh x := fun x hx => by
    obtain ⟨l, h1, h2⟩ := at' x hx
    rw [word_at h1, word_at h2, ren_word]
  refine ⟨wf, part_wf wf, fun x hx => ?_, fun x hx => ?_, fun x y hx hy _ _ => ?_⟩
  · show lkA (part sh k) ((ND sh k).idxOf x) = _
    unfold lkA; rw [wd x hx]
  · obtain ⟨l, h1, h2⟩ := at' x hx
    show memAt (part sh k) ((ND sh k).idxOf x) = _
    rw [mem_at h1, mem_at h2, ren_mem]
  · show wordAt (part sh k) ((ND sh k).idxOf x) = wordAt (part sh k) ((ND sh k).idxOf y) ↔ _
    rw [wd x hx, wd y hy]
/-- the last line of a part is the line itself, and it needs all others -/
theorem part_root (wf : Wf sh) (hk : k < sh.length) : (ND sh k).idxOf k = (part sh k).length - 1 ∧ ∀ j, j < (part sh k).length → Rch (part sh k) ((part sh k).length - 1) j := by
  have M := part_mor wf hk
  have hin : k ∈ ND sh k := (mem_ND wf).mpr (.refl k)
  have pw : (ND sh k).Pairwise (· < ·) := ND_pw
  have all : ∀ j, j < (part sh k).length → Rch (part sh k) ((ND sh k).idxOf k) j := fun j hj => by
    rw [part_len] at hj
    have hx : Rch sh k (ND sh k)[j] := (mem_ND wf).mp (List.getElem_mem hj)
    have := M.to (.refl k) hx
    have e : (ND sh k).idxOf (ND sh k)[j] = j := by
      have nd : (ND sh k).Nodup := pw.imp fun h => by omega
      exact List.Nodup.idxOf_getElem nd j hj
    rw [e] at this
    exact this
  have e : (ND sh k).idxOf k = (part sh k).length - 1 := by
    have h1 : (ND sh k).idxOf k < (part sh k).length := by rw [part_len]; exact List.idxOf_lt_length_iff.mpr hin
    have h2 := (all ((part sh k).length - 1) (by omega)).le (part_wf wf)
    omega
  exact ⟨e, by rw [← e]; exact all⟩
/-- the turns of a tidy sheet -/
theorem tidy_TR (wf : Wf sh) (h1 : 1 ≤ sh.length) (h : Td (part sh (sh.length - 1)) (part sh (sh.length - 1)).length f pl) : 1 ≤ f.length ∧ f.length ≤ (part sh (sh.length - 1)).length ∧ TR f (f.length - 1) = TR sh (sh.length - 1) := by
  have hk : sh.length - 1 < sh.length := by omega
  obtain ⟨e1, e2⟩ := part_root wf hk
  have pp := part_pos (k := sh.length - 1) wf
  have M := part_mor wf hk
  have t1 := M.TR (.refl _)
  have t1 : TR (part sh (sh.length - 1)) ((ND sh (sh.length - 1)).idxOf (sh.length - 1)) = TR sh (sh.length - 1) := t1
  rw [e1] at t1
  generalize part sh (sh.length - 1) = P at *
  have wP := M.wf'
  have M2 := h.mor wP (k := P.length - 1) (by omega)
  have t2 : TR f (pl.getD (P.length - 1) 0) = TR P (P.length - 1) := M2.TR (.refl _)
  have ep : pl[P.length - 1]? = some (pl.getD (P.length - 1) 0) := by
    rw [List.getD_eq_getElem?_getD, List.getElem?_eq_getElem (by rw [h.len]; omega)]; rfl
  have lt := h.lt _ _ ep
  have top : f.length - 1 ≤ pl.getD (P.length - 1) 0 := by
    obtain ⟨j, hj⟩ := h.onto (f.length - 1) (by omega)
    have hjl : j < P.length := by rw [← h.len]; exact (List.getElem?_eq_some_iff.mp hj).1
    have := (M2.to (.refl _) (e2 j hjl)).le h.wf
    have e : pl.getD j 0 = f.length - 1 := by rw [List.getD_eq_getElem?_getD, hj]; rfl
    rw [e] at this
    exact this
  have e : pl.getD (P.length - 1) 0 = f.length - 1 := by omega
  rw [e] at t2
  exact ⟨by omega, h.fl, t2.trans t1⟩
end
end Law

set_option autoImplicit false
set_option linter.all false
set_option maxRecDepth 10000
set_option maxHeartbeats 1000000
namespace Law
open Pv
local macro_rules | `(tactic| get_elem_tactic_trivial) => `(tactic| simp (maxSteps := 2000000) only [wpE_lit, wpE_var, wpE_glob, wpE_tup, wpE_lst, wpE_dnew, wpE_dict, wpE_lrange, wpE_lrange2, wpE_denum2, wpE_sset, wpE_ssetS, wpE_state, wpE_neg, wpE_bin, wpE_cmp, wpE_chain, wpE_and, wpE_or, wpE_not, wpE_ite, wpE_idx, wpE_slice, wpE_rev, wpE_stepS, wpE_call, wpE_blt, wpE_dget, wpE_dget2, wpE_mut, wpE_mutF, wpE_comp, wpE_dict1, wpE_dcomp, wpE_dvals, wpE_indexOf, wpE_tupS, wpE_lstS, wpE_isInst, wpE_gget, wpE_gget2, wpE_gidx, wpE_gmem, wpE_gcd, wpLS_nil, wpLS_star, wpLS_one, wpI_rngD, wpI_rngL, wpI_zip, wpI_items, wpI_keys, bin_bor, bin_band, bin_shl, bin_shr, blt_sum, blt_all, blt_any, blt_maxL, blt_minL, blt_minP, blt_sortP,
  wpL_nil, wpL_cons, wpF_nil, wpF_cons, wpA_nil, wpA_lent, wpA_fz, wpB_one, wpB_cons, wpO_none, wpO_some, wpC_nil, wpC_cons, wpI_seq, wpI_rng, wpI_rng2, wpI_enum, wpP_nil, wpP_cons, wpSs_nil, wpSs_cons, wpS_expr, wpS_assign, wpS_par, wpS_setIdx, wpS_aug, wpS_retN, wpS_ret, wpS_ite, wpS_for, wpS_while, wpS_brk, wpS_cont, wpS_pass,
  giveT_var, giveT_tup, giveL_nil, giveL_cons, give_fz, give_fresh, give_bor, esc_fz, esc_fresh, esc_bor, escI_fz, escI_fresh, escI_bor, kept_fz, kept_fresh, kept_bor, retK_fz, retK_fresh, retK_bor,
  List.getElem?_cons_zero, List.getElem?_cons_succ, List.getElem?_nil, List.set_cons_zero, List.set_cons_succ, List.foldl_cons, List.foldl_nil, List.zip_cons_cons, List.zip_nil_left, List.zip_nil_right, List.zipWith_cons_cons, List.zipWith_nil_left, List.zipWith_nil_right, List.length_cons, List.length_nil, List.replicate, List.cons_append, List.nil_append, List.set_nil, wipeE, back, back,
  Option.some.injEq, Prod.mk.injEq, exists_and_left, exists_eq_left', exists_eq_right', exists_eq', and_true, true_and, and_assoc, if_true, if_false, ↓reduceIte, reduceCtorEq, false_and, and_false, exists_false, or_false, false_or, D.int.injEq, D.str.injEq, D.tup.injEq, D.lst.injEq, D.dic.injEq, D.ref.injEq, D.bl.injEq, List.cons.injEq,
  getF, setF, List.find?_cons, List.find?_nil, Option.map_some, Option.map_none, tru_bl, tru_int, tru_non, tru_tup, tru_lst, tru_str, bin_add_int, bin_sub_int, bin_mul_int, bin_fdiv_int, bin_mod_int, bin_pow_int, bin_add_str, bin_add_lst, bin_add_tup, bin_mul_lst, bin_mul_tup, cmp_lt_int, cmp_le_int, cmp_gt_int, cmp_ge_int, cmp_lt_str, cmp_le_str, cmp_gt_str, cmp_ge_str, cmp_eq_rep, cmp_ne_rep, cmp_eq_int, cmp_eq_str, cmp_eq_tup, cmp_eq_lst, cmp_eq_bl, cmp_ne_int, cmp_ne_str, cmp_ne_tup, cmp_ne_lst, cmp_ne_bl, cmp_mem, cmp_notMem, mem_tup, mem_lst, mem_dic, idx_tup, idx_lst, idx_str, idx_dic_int, idx_dic_str, idx_ref, isKey_int, isKey_str, blt_len_tup, blt_len_lst, blt_len_dic, blt_len_str, blt_abs, blt_int, blt_int_bl, blt_max, blt_min, blt_list_lst, blt_list_tup, blt_tuple_lst, blt_tuple_tup, blt_repr, blt_sorted, kind_int, kind_str, kind_bl, kind_tup, kind_rep, kind_non, kind_lst, kind_dic, optI_none, optI_some, slice_tup, slice_lst, slice_str, rev_lst, rev_tup, items_tup, items_lst, mut_append, mut_pop, mut_popAt, mut_extend, set_lst, set_dic, Nat.reduceSub, Nat.reduceAdd, nil_beq, eq_self, Nat.reduceBEq, List.cons_beq_cons, List.isEmpty_cons, List.isEmpty_nil, Bool.and_true, Bool.and_false, Bool.true_and, Bool.false_and, Bool.not_true, Bool.not_false, Bool.false_eq_true, List.map_cons, List.map_nil, decide_eq_true_eq, Nat.reduceEqDiff, atI_c0, atI_c1, atI_c2, atI_c3, cut_c1, List.length_map, Int.toNat_natCast, and_self, List.map_append])
def tdB : List S := match b__law_tidy with | [_, .for_ _ _ _ b, _] => b | _ => []
section
variable {d : Nat} {μ : Store} {Q : Nat → D → Store → Prop} {X : D → Store → Prop} {E : Ends} {sh P f : List Ln} {k n m x i j l1 : Nat} {pl : List Nat} {ln a b : Ln}
theorem findIdx_toD (wf : Wf f) (wb : WfL j b) : ((f.map Ln.toD).findIdx? (fun x => pyEq x b.toD) = none ∧ b ∉ f) ∨ ∃ y, (f.map Ln.toD).findIdx? (fun x => pyEq x b.toD) = some y ∧ f[y]? = some b := by
  have eq : ∀ (x : Nat) (l : Ln), f[x]? = some l → (pyEq l.toD b.toD = true ↔ l = b) := fun x l h => pyEq_toD (wf x l h) wb
  cases e : (f.map Ln.toD).findIdx? (fun x => pyEq x b.toD) with
  | none =>
    refine .inl ⟨rfl, fun hb => ?_⟩
    obtain ⟨x, hx, hxe⟩ := List.getElem_of_mem hb
    have := List.findIdx?_eq_none_iff.mp e b.toD (List.mem_map.mpr ⟨b, hb, rfl⟩)
    rw [(eq x b (by rw [List.getElem?_eq_getElem hx, hxe])).mpr rfl] at this
    cases this
  | some y =>
    obtain ⟨h1, h2, h3⟩ := List.findIdx?_eq_some_iff_getElem.mp e
    rw [List.length_map] at h1
    rw [List.getElem_map] at h2
    have hy := List.getElem?_eq_getElem h1
    refine .inr ⟨y, rfl, ?_⟩
    rw [hy, (eq y _ hy).mp h2]
theorem any_find {l : List D} {y : D} : (l.any fun x => pyEq x y) = (l.findIdx? fun x => pyEq x y).isSome := by
  rw [Bool.eq_iff_iff, List.any_eq_true, List.findIdx?_isSome, List.any_eq_true]
theorem tidy_b (wP : Wf P) (hP : P.length ≤ 63) (h : Td P i f pl) (hl : P[i]? = some a) (hb : (a.ren fun n => pl.getD n 0) = b) (h1 : l1 = 0 ∨ l1 = 1) {s4 : Option (Nat × D)}
    (hk : ∀ f' pl' l1' s3 s4, Td P (i + 1) f' pl' → (l1' = 0 ∨ l1' = 1) → E.nx [some (2, shD sh), some (l1', .lst (f'.map Ln.toD)), some (1, lN pl'), s3, s4, none] μ) :
    wpSs (callN Pg (d + 1)) Pg.gl (tdB.drop 2) E [some (2, shD sh), some (l1, .lst (f.map Ln.toD)), some (1, lN pl), some (0, b.toD), s4, none] μ := by
  have hi : i < P.length := (List.getElem?_eq_some_iff.mp hl).1
  have wb := h.new wP hl
  have hfl := h.fl
  have hpl := h.len
  rw [hb] at wb
  have pb : plain b.toD 60 = true := plain_toD wb 59
  have pff : ∀ n, plainL (f.map Ln.toD) (n + 1) = true := fun n => plainL_of _ _ fun x hx => by
    obtain ⟨l, hl', rfl⟩ := List.mem_map.mp hx
    obtain ⟨y, hy, rfl⟩ := List.getElem_of_mem hl'
    exact plain_toD (h.wf y _ (List.getElem?_eq_getElem hy)) n
  have pf2 : plainL (f.map Ln.toD ++ [b.toD]) 59 = true := plainL_of _ _ fun x hx => by
    rcases List.mem_append.mp hx with hx | hx
    · obtain ⟨l, hl', rfl⟩ := List.mem_map.mp hx
      obtain ⟨y, hy, rfl⟩ := List.getElem_of_mem hl'
      exact plain_toD (h.wf y _ (List.getElem?_eq_getElem hy)) 58
    · rw [List.mem_singleton.mp hx]; exact plain_toD wb 58
  have hlt : pl.length < big := by show _ < 16777216; omega
  dsimp only [tdB, b__law_tidy, List.drop]
  have old : ∀ y, (f.map Ln.toD).findIdx? (fun x => pyEq x b.toD) = some y → f[y]? = some b → E.nx [some (2, shD sh), some (0, .lst (f.map Ln.toD)), some (1, lN (pl ++ [y])), some (0, b.toD), s4, none] μ := fun y e hy => by
    refine hk f (pl ++ [y]) 0 _ _ (h.step wP hl (.inl ⟨rfl, by rw [hb]; exact List.mem_of_getElem? hy⟩) (by rw [hb]; exact hy) fun e => ?_) (.inl rfl)
    have := congrArg List.length e
    rw [List.length_append] at this
    simp at this
  have fresh : b ∉ f → E.nx [some (2, shD sh), some (1, .lst (f.map Ln.toD ++ [b.toD])), some (1, lN (pl ++ [f.length])), some (0, b.toD), s4, none] μ := fun hn => by
    have := hk (f ++ [b]) (pl ++ [f.length]) 1 (some (0, b.toD)) s4 (h.step wP hl (.inr (by rw [hb])) (by rw [hb, List.getElem?_append_right (Nat.le_refl _), Nat.sub_self]; rfl) fun _ => rfl) (.inr rfl)
    rw [List.map_append] at this
    exact this
  have e10 : ∀ y : Nat, iD pl ++ [D.int (y : Int)] = iD (pl ++ [y]) := fun y => by simp
  have hany : ((f.map Ln.toD).any fun x => pyEq x b.toD) = ((f.map Ln.toD).findIdx? fun x => pyEq x b.toD).isSome := any_find
  rcases findIdx_toD h.wf wb with ⟨e, hn⟩ | ⟨y, e, hy⟩
  · rw [e, Option.isSome_none] at hany
    have e11 : ((f.map Ln.toD) ++ [b.toD]).findIdx? (fun x => pyEq x b.toD) = some f.length := by
      rw [List.findIdx?_append, e, List.findIdx?_cons, if_pos ((pyEq_toD wb wb).mpr rfl)]
      simp
    rcases h1 with rfl | rfl
    all_goals
      get_elem_tactic_trivial
      refine ⟨pb, pff 59, ?_⟩
      rw [hany]
      get_elem_tactic_trivial
      refine ⟨by show _ ≤ 16777216; omega, ?_⟩
      refine ⟨pb, pf2, _, e11, ?_⟩
      rw [e10]
      exact ⟨hlt, fresh hn⟩
  · rw [e, Option.isSome_some] at hany
    rcases h1 with rfl | rfl
    all_goals
      get_elem_tactic_trivial
      refine ⟨pb, pff 59, ?_⟩
      rw [hany]
      get_elem_tactic_trivial
      refine ⟨pb, pff 58, _, e, ?_⟩
      rw [e10]
      exact ⟨hlt, old y e hy⟩
theorem tidy_lap (wP : Wf P) (hP : P.length ≤ 63) (h : Td P i f pl) (hl : P[i]? = some a) (h1 : l1 = 0 ∨ l1 = 1)
    (hk : ∀ f' pl' l1' s3 s4, Td P (i + 1) f' pl' → (l1' = 0 ∨ l1' = 1) → E.nx [some (2, shD sh), some (l1', .lst (f'.map Ln.toD)), some (1, lN pl'), s3, s4, none] μ) :
    wpSs (callN Pg (d + 1)) Pg.gl tdB E [some (2, shD sh), some (l1, .lst (f.map Ln.toD)), some (1, lN pl), some (0, a.toD), none, none] μ := by
  have wfa := wP i a hl
  have hi : i < P.length := (List.getElem?_eq_some_iff.mp hl).1
  have hpl := h.len
  have hmem2 : a.mem.length ≤ 2 := mem_le2 wfa
  rw [wpSs_split 2]
  generalize hE1 : Ends.mk _ _ _ _ _ = E1
  have fin : E1.nx [some (2, shD sh), some (l1, .lst (f.map Ln.toD)), some (1, lN pl), some (0, (a.ren fun n => pl.getD n 0).toD), some (0, .tup (iD (a.mem.map fun n => pl.getD n 0))), none] μ := by
    rw [← hE1]
    exact tidy_b wP hP h hl rfl h1 hk
  dsimp only [tdB, b__law_tidy, List.take]
  get_elem_tactic_trivial
  refine lmembers_ok wfa ⟨_, rfl, rfl, ?_⟩
  refine comp_map a.mem (fun (m : Nat) => D.int (m : Int)) (fun (m : Nat) => D.int ((pl.getD m 0 : Nat) : Int)) (fun m hm K2 hk2 => ?_) (by show _ ≤ 16777216; omega) ?_
  · get_elem_tactic_trivial
    have hmi := mem_lt' wfa m hm
    refine ⟨_, atI_nat (j := m) (x := D.int ((pl.getD m 0 : Nat) : Int)) ?_, hk2⟩
    rw [List.getElem?_map, List.getElem?_eq_getElem (by omega), List.getD_eq_getElem?_getD, List.getElem?_eq_getElem (by omega)]
    rfl
  · rw [show a.mem.map (fun (m : Nat) => D.int ((pl.getD m 0 : Nat) : Int)) = iD (a.mem.map fun n => pl.getD n 0) by simp]
    get_elem_tactic_trivial
    rw [pyEqL_nil]
    refine ⟨plain_iD _ _, rfl, ?_⟩
    clear hk
    cases a with
    | letter s => exact fin
    | yes => exact fin
    | op w ms =>
      cases ms with
      | nil => exact fin
      | cons m0 mr =>
        have := wfa.2.1
        show if (!(List.map (fun n => pl.getD n 0) (m0 :: mr)).isEmpty) = true then _ else _
        rw [if_pos (by rfl), toD_op, slice_tup, cut01, bin_add_tup]
        refine ⟨trivial, ?_, fin⟩
        simp only [Ln.mem, List.length_map, List.length_cons, List.length_nil, big] at this ⊢
        omega
theorem ltidy_ok (wf : Wf sh) (h1 : 1 ≤ sh.length) (hs : sh.length ≤ 63) (post : ∀ f, Wf f → 1 ≤ f.length → f.length ≤ 63 → TR f (f.length - 1) = TR sh (sh.length - 1) → Q 0 (shD f) μ) : callN Pg (d + 3) "_law_tidy" [shD sh] μ Q X := by
  rw [callN_succ]
  refine ⟨d__law_tidy, rfl, rfl, ?_⟩
  show wpSs _ _ b__law_tidy _ [some (2, shD sh), none, none, none, none, none] _
  rw [wpSs_split 1]
  generalize hE : Ends.mk _ _ _ _ _ = E1
  dsimp only [b__law_tidy, List.take]
  get_elem_tactic_trivial
  rw [← hE]
  show wpSs _ _ (.for_ [3, 4] (.var 3) (.seq (.call "_law_part" [true, false] [.var 0, .bin .sub (.blt .len [.var 0]) (.lit (.int 1))])) tdB :: b__law_tidy.drop 2) _ [some (2, shD sh), some (1, .lst []), some (1, .lst []), none, none, none] μ
  rw [wpSs_cons, wpS_for, wpI_seq]
  get_elem_tactic_trivial
  rw [last_int h1]
  refine part_ok wf (by omega) hs ?_
  get_elem_tactic_trivial
  have wP : Wf (part sh (sh.length - 1)) := part_wf wf
  have hP : (part sh (sh.length - 1)).length ≤ 63 := by
    rw [part_len]
    have := ND_len (sh := sh) (k := sh.length - 1)
    omega
  have tr := fun (f : List Ln) (pl : List Nat) => tidy_TR (f := f) (pl := pl) wf h1
  generalize part sh (sh.length - 1) = P at *
  refine for_ok (fun pre tl env ν => ν = μ ∧ ∃ (i : Nat) (f : List Ln) (pl : List Nat) (l1 : Nat), tl = (P.drop i).map Ln.toD ∧ i ≤ P.length ∧ Td P i f pl ∧ (l1 = 0 ∨ l1 = 1) ∧ env = [some (2, shD sh), some (l1, .lst (f.map Ln.toD)), some (1, lN pl), none, none, none])
    ⟨rfl, 0, [], [], 1, rfl, Nat.zero_le _, ⟨fun i l h => by simp at h, rfl, Nat.le_refl _, fun j x h => by simp at h, fun j x l h => by simp at h, fun x h => absurd h (Nat.not_lt_zero _)⟩, .inr rfl, rfl⟩ ?_ ?_
  · rintro pre x tl env ν K' ⟨rfl, i, f, pl, l1, htl, hi, h, h1', rfl⟩ hk
    have hi' : i < P.length := by
      rcases Nat.lt_or_ge i P.length with h | h
      · exact h
      · rw [List.drop_eq_nil_of_le h] at htl; cases htl
    rw [List.drop_eq_getElem_cons hi', List.map_cons] at htl
    injection htl with e3 e4
    subst e3
    show wpSs (callN Pg (d + 2)) Pg.gl tdB _ [some (2, shD sh), some (l1, .lst (f.map Ln.toD)), some (1, lN pl), some (0, (P[i]).toD), none, none] ν
    refine tidy_lap wP hP h (List.getElem?_eq_getElem hi') h1' fun f' pl' l1' s3 s4 h' hl' => ?_
    exact hk _ _ ⟨rfl, i + 1, f', pl', l1', e4, hi', h', hl', rfl⟩
  · rintro pre env ν ⟨rfl, i, f, pl, l1, htl, hi, h, h1', rfl⟩
    have hi' : i = P.length := by
      have := congrArg List.length htl
      simp at this
      omega
    subst hi'
    obtain ⟨t1, t2, t3⟩ := tr f pl h
    have post := post f h.wf t1 (by omega) t3
    dsimp only [b__law_tidy, List.drop]
    rcases h1' with rfl | rfl
    all_goals
      get_elem_tactic_trivial
      exact post
end
end Law

set_option autoImplicit false
set_option linter.all false
set_option maxRecDepth 10000
namespace Law
open Pv
local macro_rules | `(tactic| get_elem_tactic_trivial) => `(tactic| simp (maxSteps := 2000000) only [wpE_lit, wpE_var, wpE_glob, wpE_tup, wpE_lst, wpE_dnew, wpE_dict, wpE_lrange, wpE_lrange2, wpE_denum2, wpE_sset, wpE_ssetS, wpE_state, wpE_neg, wpE_bin, wpE_cmp, wpE_chain, wpE_and, wpE_or, wpE_not, wpE_ite, wpE_idx, wpE_slice, wpE_rev, wpE_stepS, wpE_call, wpE_blt, wpE_dget, wpE_dget2, wpE_mut, wpE_mutF, wpE_comp, wpE_dict1, wpE_dcomp, wpE_dvals, wpE_indexOf, wpE_tupS, wpE_lstS, wpE_isInst, wpE_gget, wpE_gget2, wpE_gidx, wpE_gmem, wpE_gcd, wpLS_nil, wpLS_star, wpLS_one, wpI_rngD, wpI_rngL, wpI_zip, wpI_items, wpI_keys, bin_bor, bin_band, bin_shl, bin_shr, blt_sum, blt_all, blt_any, blt_maxL, blt_minL, blt_minP,
  wpL_nil, wpL_cons, wpF_nil, wpF_cons, wpA_nil, wpA_lent, wpA_fz, wpB_one, wpB_cons, wpO_none, wpO_some, wpC_nil, wpC_cons, wpI_seq, wpI_rng, wpI_rng2, wpI_enum, wpP_nil, wpP_cons, wpSs_nil, wpSs_cons, wpS_expr, wpS_assign, wpS_par, wpS_setIdx, wpS_aug, wpS_retN, wpS_ret, wpS_ite, wpS_for, wpS_while, wpS_brk, wpS_cont, wpS_pass,
  giveT_var, giveT_tup, giveL_nil, giveL_cons, give_fz, give_fresh, give_bor, esc_fz, esc_fresh, esc_bor, escI_fz, escI_fresh, escI_bor, kept_fz, kept_fresh, kept_bor, retK_fz, retK_fresh, retK_bor,
  List.getElem?_cons_zero, List.getElem?_cons_succ, List.getElem?_nil, List.set_cons_zero, List.set_cons_succ, List.foldl_cons, List.foldl_nil, List.zip_cons_cons, List.zip_nil_left, List.zip_nil_right, List.zipWith_cons_cons, List.zipWith_nil_left, List.zipWith_nil_right, List.length_cons, List.length_nil, List.replicate, List.cons_append, List.nil_append, List.set_nil, wipeE, back, back,
  Option.some.injEq, Prod.mk.injEq, exists_and_left, exists_eq_left', exists_eq_right', exists_eq', and_true, true_and, and_assoc, if_true, if_false, ↓reduceIte, reduceCtorEq, false_and, and_false, exists_false, or_false, false_or, D.int.injEq, D.str.injEq, D.tup.injEq, D.lst.injEq, D.dic.injEq, D.ref.injEq, D.bl.injEq, List.cons.injEq,
  getF, setF, List.find?_cons, List.find?_nil, Option.map_some, Option.map_none, tru_bl, tru_int, tru_non, tru_tup, tru_lst, tru_str, bin_add_int, bin_sub_int, bin_mul_int, bin_fdiv_int, bin_mod_int, bin_pow_int, bin_add_str, bin_add_lst, bin_add_tup, bin_mul_lst, bin_mul_tup, cmp_lt_int, cmp_le_int, cmp_gt_int, cmp_ge_int, cmp_lt_str, cmp_le_str, cmp_gt_str, cmp_ge_str, cmp_eq_rep, cmp_ne_rep, cmp_eq_int, cmp_eq_str, cmp_eq_tup, cmp_eq_lst, cmp_eq_bl, cmp_ne_int, cmp_ne_str, cmp_ne_tup, cmp_ne_lst, cmp_ne_bl, cmp_mem, cmp_notMem, mem_tup, mem_lst, mem_dic, idx_tup, idx_lst, idx_str, idx_dic_int, idx_dic_str, idx_ref, isKey_int, isKey_str, blt_len_tup, blt_len_lst, blt_len_dic, blt_len_str, blt_abs, blt_int, blt_int_bl, blt_max, blt_min, blt_list_lst, blt_list_tup, blt_tuple_lst, blt_tuple_tup, blt_repr, blt_sorted, kind_int, kind_str, kind_bl, kind_tup, kind_rep, kind_non, kind_lst, kind_dic, optI_none, optI_some, slice_tup, slice_lst, slice_str, rev_lst, rev_tup, items_tup, items_lst, mut_append, mut_pop, mut_popAt, mut_extend, set_lst, set_dic, Nat.reduceSub, Nat.reduceAdd, nil_beq, eq_self, Nat.reduceBEq, List.cons_beq_cons, List.isEmpty_cons, List.isEmpty_nil, Bool.and_true, Bool.and_false, Bool.true_and, Bool.false_and, Bool.not_true, Bool.not_false, Bool.false_eq_true, List.map_cons, List.map_nil, decide_eq_true_eq, Nat.reduceEqDiff])
section
variable {d : Nat} {μ : Store} {Q : Nat → D → Store → Prop} {X : D → Store → Prop} {sh one oth : List Ln} {l : Ln} {i k p m : Nat}
theorem words_ok (h : Src μ) (post : ∀ ws μ', (∀ w ∈ ws, okS w = true) → ws.length ≤ 2 → Src μ' → Q 1 (lS ws) μ') : callN Pg (d + 3) "_law_words" [.ref 0, .int 2] μ Q X := by
  rw [callN_succ]
  refine ⟨d__law_words, rfl, rfl, ?_⟩
  show wpSs _ _ b__law_words _ [some (0, .ref 0), some (2, .int 2), none] _
  unfold b__law_words
  get_elem_tactic_trivial
  refine mixed_ok h (by simp) fun acc μ' hp hs => ?_
  obtain ⟨l', rfl, hl⟩ := perm_map_str (l := [[97], [98], [99], [112], [113], [121, 101, 115], [110, 111, 116], [117, 110, 116, 105, 108], [115, 105, 110, 99, 101], [108, 101, 102, 116], [120, 49], [97, 98], [97, 98, 99, 100, 101, 102, 103, 104, 105, 106, 107, 108]]) hp
  refine ⟨trivial, ?_⟩
  get_elem_tactic_trivial
  have ct : cut (l'.map D.str) none (some 2) = (l'.take 2).map D.str := by
    have : l'.length = 13 := hl.length_eq
    unfold cut sIx
    rw [List.length_map, this, List.map_take]; rfl
  rw [ct]
  refine .inr ⟨_, strsOf_map _, post _ _ (fun w hw => ?_) ?_ hs⟩
  · have hw := (sortS_perm _).mem_iff.mp hw
    have hw := hl.mem_iff.mp (List.mem_of_mem_take hw)
    have all : ∀ w ∈ ([[97], [98], [99], [112], [113], [121, 101, 115], [110, 111, 116], [117, 110, 116, 105, 108], [115, 105, 110, 99, 101], [108, 101, 102, 116], [120, 49], [97, 98], [97, 98, 99, 100, 101, 102, 103, 104, 105, 106, 107, 108]] : List (List Nat)), okS w = true := by decide
    exact all w hw
  · rw [(sortS_perm _).length_eq, List.length_take]; omega
theorem denied_ok (wf : Wf sh) (h1 : 1 ≤ sh.length) (hl : sh.length < 1000) (post : ∀ sh', Wf sh' → sh'.length = sh.length + 1 → Q 0 (shD sh') μ) : callN Pg (d + 1) "_law_denied" [shD sh] μ Q X := by
  rw [callN_succ]
  refine ⟨d__law_denied, rfl, rfl, ?_⟩
  show wpSs _ _ b__law_denied _ [some (2, shD sh)] _
  unfold b__law_denied
  get_elem_tactic_trivial
  rw [List.length_map, last_int h1]
  refine ⟨by unfold big; omega, ?_⟩
  have := post (sh ++ [.op kNot [sh.length - 1]]) (wf.snoc (l := .op kNot [sh.length - 1]) (show okw kNot ∧ _ from ⟨.inl rfl, by simp, fun m hm => by rw [List.mem_singleton.mp hm]; omega, rfl⟩)) (by simp)
  rw [show shD (sh ++ [.op kNot [sh.length - 1]]) = .tup (sh.map Ln.toD ++ [.tup [.str kNot, .int ((sh.length - 1 : Nat) : Int)]]) by simp [Ln.toD]] at this
  exact this
end
end Law

set_option autoImplicit false
set_option linter.all false
namespace Law
open Pv
/-- a line with another word -/
def Ln.chg (f : List Nat → List Nat) : Ln → Ln
  | .op w ms => .op (f w) ms
  | l => l
end Law

set_option autoImplicit false
set_option linter.all false
set_option maxRecDepth 10000
namespace Law
open Pv
local macro_rules | `(tactic| get_elem_tactic_trivial) => `(tactic| simp (maxSteps := 2000000) only [wpE_lit, wpE_var, wpE_glob, wpE_tup, wpE_lst, wpE_dnew, wpE_dict, wpE_lrange, wpE_lrange2, wpE_denum2, wpE_sset, wpE_ssetS, wpE_state, wpE_neg, wpE_bin, wpE_cmp, wpE_chain, wpE_and, wpE_or, wpE_not, wpE_ite, wpE_idx, wpE_slice, wpE_rev, wpE_stepS, wpE_call, wpE_blt, wpE_dget, wpE_dget2, wpE_mut, wpE_mutF, wpE_comp, wpE_dict1, wpE_dcomp, wpE_dvals, wpE_indexOf, wpE_tupS, wpE_lstS, wpE_isInst, wpE_gget, wpE_gget2, wpE_gidx, wpE_gmem, wpE_gcd, wpLS_nil, wpLS_star, wpLS_one, wpI_rngD, wpI_rngL, wpI_zip, wpI_items, wpI_keys, bin_bor, bin_band, bin_shl, bin_shr, blt_sum, blt_all, blt_any, blt_maxL, blt_minL, blt_minP,
  wpL_nil, wpL_cons, wpF_nil, wpF_cons, wpA_nil, wpA_lent, wpA_fz, wpB_one, wpB_cons, wpO_none, wpO_some, wpC_nil, wpC_cons, wpI_seq, wpI_rng, wpI_rng2, wpI_enum, wpP_nil, wpP_cons, wpSs_nil, wpSs_cons, wpS_expr, wpS_assign, wpS_par, wpS_setIdx, wpS_aug, wpS_retN, wpS_ret, wpS_ite, wpS_for, wpS_while, wpS_brk, wpS_cont, wpS_pass,
  giveT_var, giveT_tup, giveL_nil, giveL_cons, give_fz, give_fresh, give_bor, esc_fz, esc_fresh, esc_bor, escI_fz, escI_fresh, escI_bor, kept_fz, kept_fresh, kept_bor, retK_fz, retK_fresh, retK_bor,
  List.getElem?_cons_zero, List.getElem?_cons_succ, List.getElem?_nil, List.set_cons_zero, List.set_cons_succ, List.foldl_cons, List.foldl_nil, List.zip_cons_cons, List.zip_nil_left, List.zip_nil_right, List.zipWith_cons_cons, List.zipWith_nil_left, List.zipWith_nil_right, List.length_cons, List.length_nil, List.replicate, List.cons_append, List.nil_append, List.set_nil, wipeE, back, back,
  Option.some.injEq, Prod.mk.injEq, exists_and_left, exists_eq_left', exists_eq_right', exists_eq', and_true, true_and, and_assoc, if_true, if_false, ↓reduceIte, reduceCtorEq, false_and, and_false, exists_false, or_false, false_or, D.int.injEq, D.str.injEq, D.tup.injEq, D.lst.injEq, D.dic.injEq, D.ref.injEq, D.bl.injEq, List.cons.injEq,
  getF, setF, List.find?_cons, List.find?_nil, Option.map_some, Option.map_none, tru_bl, tru_int, tru_non, tru_tup, tru_lst, tru_str, bin_add_int, bin_sub_int, bin_mul_int, bin_fdiv_int, bin_mod_int, bin_pow_int, bin_add_str, bin_add_lst, bin_add_tup, bin_mul_lst, bin_mul_tup, cmp_lt_int, cmp_le_int, cmp_gt_int, cmp_ge_int, cmp_lt_str, cmp_le_str, cmp_gt_str, cmp_ge_str, cmp_eq_rep, cmp_ne_rep, cmp_eq_int, cmp_eq_str, cmp_eq_tup, cmp_eq_lst, cmp_eq_bl, cmp_ne_int, cmp_ne_str, cmp_ne_tup, cmp_ne_lst, cmp_ne_bl, cmp_mem, cmp_notMem, mem_tup, mem_lst, mem_dic, idx_tup, idx_lst, idx_str, idx_dic_int, idx_dic_str, idx_ref, isKey_int, isKey_str, blt_len_tup, blt_len_lst, blt_len_dic, blt_len_str, blt_abs, blt_int, blt_int_bl, blt_max, blt_min, blt_list_lst, blt_list_tup, blt_tuple_lst, blt_tuple_tup, blt_repr, blt_sorted, kind_int, kind_str, kind_bl, kind_tup, kind_rep, kind_non, kind_lst, kind_dic, optI_none, optI_some, slice_tup, slice_lst, slice_str, rev_lst, rev_tup, items_tup, items_lst, mut_append, mut_pop, mut_popAt, mut_extend, set_lst, set_dic, Nat.reduceSub, Nat.reduceAdd, nil_beq, eq_self, Nat.reduceBEq, List.cons_beq_cons, List.isEmpty_cons, List.isEmpty_nil, Bool.and_true, Bool.and_false, Bool.true_and, Bool.false_and, Bool.not_true, Bool.not_false, Bool.false_eq_true, List.map_cons, List.map_nil, decide_eq_true_eq, Nat.reduceEqDiff])
section
variable {d : Nat} {μ : Store} {Q : Nat → D → Store → Prop} {X : D → Store → Prop} {sh one oth : List Ln} {l : Ln} {i k p m : Nat}
def Ln.shift (n : Nat) : Ln → Ln
  | .op w ms => .op w (ms.map (· + n))
  | l => l
theorem Wf.append (h1 : Wf one) (h2 : Wf oth) : Wf (one ++ oth.map (Ln.shift one.length)) := fun i l hl => by
  by_cases hi : i < one.length
  · rw [List.getElem?_append_left hi] at hl; exact h1 i l hl
  · rw [List.getElem?_append_right (by omega), List.getElem?_map] at hl
    cases e : oth[i - one.length]? with
    | none => rw [e] at hl; cases hl
    | some x =>
      rw [e] at hl; cases hl
      have := h2 _ x e
      cases x with
      | letter s => exact this
      | yes => trivial
      | op w ms =>
        refine ⟨this.1, by rw [List.length_map]; exact this.2.1, fun m hm => ?_, by rw [List.length_map]; exact this.2.2.2⟩
        obtain ⟨y, hy, rfl⟩ := List.mem_map.mp hm
        have := this.2.2.1 y hy
        omega
theorem put_ok {word : List Nat} (hw : okw word) (hb : ar word = 2) (h1 : Wf one) (h2 : Wf oth) (l1 : 1 ≤ one.length) (l1' : one.length ≤ 100) (l2 : oth.length ≤ 100) (post : ∀ sh', Wf sh' → sh'.length = one.length + oth.length + 1 → Q 0 (shD sh') μ) :
    callN Pg (d + 2) "_law_put" [.str word, shD one, shD oth] μ Q X := by
  rw [callN_succ]
  refine ⟨d__law_put, rfl, rfl, ?_⟩
  show wpSs _ _ b__law_put _ [some (0, .str word), some (2, shD one), some (2, shD oth), none, none, none, none, none] _
  rw [wpSs_split 1]
  generalize hE0 : Ends.mk _ _ _ _ _ = E0
  dsimp only [b__law_put, List.take]
  get_elem_tactic_trivial
  rw [← hE0]
  dsimp only [b__law_put, List.drop]
  rw [wpSs_cons, wpS_for, wpI_seq, wpE_var]
  refine ⟨2, shD oth, rfl, _, rfl, ?_⟩
  show forLoop _ _ _ _ _
  refine for_ok (fun pre tl env ν => ν = μ ∧ ∃ n, n ≤ oth.length ∧ tl = (oth.drop n).map Ln.toD ∧ env = [some (0, .str word), some (2, shD one), some (2, shD oth), some (1, .lst ((one ++ (oth.take n).map (Ln.shift one.length)).map Ln.toD)), some (0, .int (one.length : Int)), none, none, none]) ⟨rfl, 0, Nat.zero_le _, rfl, by rw [List.take_zero, List.map_nil, List.append_nil, List.length_map]; rfl⟩ ?_ ?_
  · rintro pre x tl env ν K' ⟨rfl, n, hn, htl, rfl⟩ hk
    have hn : n < oth.length := by
      rcases Nat.lt_or_ge n oth.length with h | h
      · exact h
      · rw [List.drop_eq_nil_of_le h] at htl; cases htl
    rw [List.drop_eq_getElem_cons hn, List.map_cons] at htl
    obtain ⟨rfl, rfl⟩ := List.cons.inj htl
    have hl := List.getElem?_eq_getElem hn
    have wfl := h2 _ _ hl
    have app : K' [some (0, .str word), some (2, shD one), some (2, shD oth), some (1, .lst ((one ++ (oth.take n).map (Ln.shift one.length)).map Ln.toD ++ [(oth[n].shift one.length).toD])), some (0, .int (one.length : Int)), none, none, none] ν := by
      refine hk _ _ ⟨rfl, n + 1, hn, rfl, ?_⟩
      rw [List.take_succ_eq_append_getElem hn]
      simp only [List.map_append, List.map_cons, List.map_nil, List.append_assoc]
    have len : ((one ++ (oth.take n).map (Ln.shift one.length)).map Ln.toD).length < big := by simp [big]; omega
    get_elem_tactic_trivial
    refine lmembers_ok wfl ⟨_, rfl, rfl, ?_⟩
    refine comp_ok (fun pre tl acc env ν' => ν' = ν ∧ ∃ a b, oth[n].mem = a ++ b ∧ tl = iD b ∧ acc = iD (a.map (· + one.length)) ∧ env = [some (0, .str word), some (2, shD one), some (2, shD oth), some (1, .lst ((one ++ (oth.take n).map (Ln.shift one.length)).map Ln.toD)), some (0, .int (one.length : Int)), some (0, oth[n].toD), none, none]) ⟨rfl, [], oth[n].mem, rfl, rfl, rfl, rfl⟩ ?_ ?_ ?_
    · rintro pre x tl acc env ν' K2 ⟨rfl, a, b, hab, htl, rfl, rfl⟩ _ hk2
      cases b with
      | nil => cases htl
      | cons m b =>
        obtain ⟨rfl, rfl⟩ := List.cons.inj htl
        get_elem_tactic_trivial
        refine hk2 _ _ _ ⟨rfl, a ++ [m], b, by rw [hab]; simp, rfl, by simp [iD], rfl⟩
    · rintro pre x tl acc env ν' ⟨rfl, a, b, hab, htl, rfl, rfl⟩
      have : a.length ≤ 2 := by
        cases e : oth[n] with
        | letter s => rw [e] at hab; simp [Ln.mem] at hab; simp [hab]
        | yes => rw [e] at hab; simp [Ln.mem] at hab; simp [hab]
        | op w ms => rw [e] at hab wfl; have := wfl.2.1; simp only [Ln.mem] at hab; rw [hab] at this; simp at this; omega
      simp [iD, big]; omega
    · rintro pre acc env ν' ⟨rfl, a, b, hab, htl, rfl, rfl⟩
      have : b = [] := by simpa [iD] using htl.symm
      subst this
      rw [List.append_nil] at hab
      get_elem_tactic_trivial
      refine ⟨plain_iD _ _, rfl, ?_⟩
      rw [pyEqL_nil]
      have a2 : a.length ≤ 2 := by
        cases e : oth[n] with
        | letter s => rw [e] at hab; simp [Ln.mem] at hab; simp [hab]
        | yes => rw [e] at hab; simp [Ln.mem] at hab; simp [hab]
        | op w ms => rw [e] at hab wfl; have := wfl.2.1; simp only [Ln.mem] at hab; rw [hab] at this; exact this
      cases a with
      | nil =>
        rw [if_neg (by simp)]
        have : (oth[n].shift one.length) = oth[n] := by
          cases e : oth[n] with
          | letter s => rfl
          | yes => rfl
          | op w ms => rw [e] at hab; simp only [Ln.mem] at hab; subst hab; rfl
        rw [this] at app
        exact ⟨len, app⟩
      | cons m r =>
        rw [if_pos (by simp)]
        generalize oth[n] = ln at *
        cases ln with
        | letter s => simp [Ln.mem] at hab
        | yes => simp [Ln.mem] at hab
        | op w ms =>
          simp only [Ln.mem] at hab
          subst hab
          rw [toD_op, slice_tup, cut01]
          refine ⟨trivial, ?_⟩
          rw [bin_add_tup]
          refine ⟨?_, _, rfl, len, app⟩
          simp only [List.length_map, List.length_cons, List.length_nil, big] at a2 ⊢
          omega
  · rintro pre env ν ⟨rfl, n, hn, htl, rfl⟩
    have hn : n = oth.length := by
      have := congrArg List.length htl
      simp at this
      omega
    subst hn
    rw [List.take_length]
    get_elem_tactic_trivial
    refine ⟨by simp [big]; omega, ?_⟩
    have := post ((one ++ oth.map (Ln.shift one.length)) ++ [.op word [one.length - 1, one.length + oth.length - 1]]) ((h1.append h2).snoc (l := .op word [one.length - 1, one.length + oth.length - 1]) (show okw word ∧ _ from ⟨hw, by simp, fun m hm => by
      simp only [List.length_append, List.length_map]
      rcases List.mem_cons.mp hm with rfl | hm
      · omega
      · rw [List.mem_singleton.mp hm]; omega, hb.symm⟩)) (by simp; omega)
    have e1 : ((one.length : Int) - 1) = ((one.length - 1 : Nat) : Int) := by omega
    have e2 : (((List.map Ln.toD (one ++ oth.map (Ln.shift one.length))).length : Int) - 1) = ((one.length + oth.length - 1 : Nat) : Int) := by simp; omega
    rw [e1, e2]
    rw [show shD ((one ++ oth.map (Ln.shift one.length)) ++ [.op word [one.length - 1, one.length + oth.length - 1]]) = .tup (List.map Ln.toD (one ++ oth.map (Ln.shift one.length)) ++ [(Ln.op word [one.length - 1, one.length + oth.length - 1]).toD]) by rw [shD, List.map_append (l₂ := [_])]; rfl] at this
    exact this
/-! ### words changed -/
theorem Wf.chg {f : List Nat → List Nat} (wf : Wf sh) (hf : ∀ w, okw w → okw (f w)) (ha : ∀ w, okw w → ar (f w) = ar w) : Wf (sh.map (Ln.chg f)) := fun i l hl => by
  rw [List.getElem?_map] at hl
  cases e : sh[i]? with
  | none => rw [e] at hl; cases hl
  | some x =>
    rw [e] at hl; cases hl
    have := wf i x e
    cases x with
    | letter s => exact this
    | yes => trivial
    | op w ms => exact ⟨hf w this.1, this.2.1, this.2.2.1, this.2.2.2.trans (ha w this.1).symm⟩
def kvsOf (way : Nat) : List (D × D) := match way with
  | 2 => [(.str kUntil, .str kSince)]
  | 3 => [(.str kSince, .str kUntil)]
  | 4 => [(.str kUntil, .str kOr), (.str kSince, .str kAnd)]
  | _ => []
def chgW (way : Nat) (w : List Nat) : List Nat := match way with
  | 2 => if w = kUntil then kSince else w
  | 3 => if w = kSince then kUntil else w
  | 4 => if w = kUntil then kOr else if w = kSince then kAnd else w
  | _ => w
theorem chg_ok (way : Nat) (w : List Nat) (h : okw w) : okw (chgW way w) ∧ ((dget (kvsOf way) (.str w)).getD (.str w)) = .str (chgW way w) := by
  match way with
  | 0 => exact ⟨h, rfl⟩
  | 1 => exact ⟨h, rfl⟩
  | 2 => rcases h with rfl | rfl | rfl | rfl | rfl <;> exact ⟨by decide, rfl⟩
  | 3 => rcases h with rfl | rfl | rfl | rfl | rfl <;> exact ⟨by decide, rfl⟩
  | 4 => rcases h with rfl | rfl | rfl | rfl | rfl <;> exact ⟨by decide, rfl⟩
  | _ + 5 => exact ⟨h, rfl⟩
theorem chg_ar (way : Nat) (w : List Nat) (h : okw w) : ar (chgW way w) = ar w := by
  match way with
  | 0 => rfl
  | 1 => rfl
  | 2 => rcases h with rfl | rfl | rfl | rfl | rfl <;> rfl
  | 3 => rcases h with rfl | rfl | rfl | rfl | rfl <;> rfl
  | 4 => rcases h with rfl | rfl | rfl | rfl | rfl <;> rfl
  | _ + 5 => rfl
theorem chg_leaf (way : Nat) : ((dget (kvsOf way) (.str kLetter)).getD (.str kLetter)) = .str kLetter ∧ ((dget (kvsOf way) (.str kYes)).getD (.str kYes)) = .str kYes := by
  match way with
  | 0 => exact ⟨rfl, rfl⟩
  | 1 => exact ⟨rfl, rfl⟩
  | 2 => exact ⟨rfl, rfl⟩
  | 3 => exact ⟨rfl, rfl⟩
  | 4 => exact ⟨rfl, rfl⟩
  | _ + 5 => exact ⟨rfl, rfl⟩
theorem kept_ok {words : List (List Nat)} {most : Int} (h : Src μ) (hne : words ≠ []) (hwl : words.length < 100) (hw : ∀ w ∈ words, okS w = true) (h1 : 1 ≤ most) (h2 : most ≤ 28) (post : ∀ sh μ', Wf sh → 1 ≤ sh.length → sh.length ≤ 28 → Src μ' → Q 0 (shD sh) μ') :
    callN Pg (d + 4) "_law_kept_sheet" [.ref 0, lS words, .int most] μ Q X := by
  rw [callN_succ]
  refine ⟨d__law_kept_sheet, rfl, rfl, ?_⟩
  show wpSs _ _ b__law_kept_sheet _ [some (0, .ref 0), some (2, lS words), some (2, .int most), none, none, none, none] _
  rw [wpSs_split 1]
  generalize hE0 : Ends.mk _ _ _ _ _ = E0
  dsimp only [b__law_kept_sheet, List.take]
  get_elem_tactic_trivial
  refine sheet_ok h hne hwl hw h1 (by omega) fun sh μ1 wf l1 l2 hs1 => ?_
  get_elem_tactic_trivial
  refine pick_ok hs1 (by omega) fun r μ2 hs2 r0 r1 => ?_
  get_elem_tactic_trivial
  rw [← hE0]
  obtain ⟨way, rfl⟩ : ∃ way : Nat, r = (way : Int) := ⟨r.toNat, by omega⟩
  have hway : way < 5 := by omega
  dsimp only [b__law_kept_sheet, List.drop]
  rw [wpSs_split 1]
  generalize hE1 : Ends.mk _ _ _ _ _ = E1
  dsimp only [List.take, List.drop]
  get_elem_tactic_trivial
  have ix : atI [D.dic [], D.dic [], D.dic [(D.str kUntil, D.str kSince)], D.dic [(D.str kSince, D.str kUntil)], D.dic [(D.str kUntil, D.str kOr), (D.str kSince, D.str kAnd)]] (way : Int) = some (.dic (kvsOf way)) := by
    refine atI_nat ?_
    match way, hway with
    | 0, _ => rfl
    | 1, _ => rfl
    | 2, _ => rfl
    | 3, _ => rfl
    | 4, _ => rfl
  refine ⟨_, ix, ?_⟩
  rw [← hE1]
  dsimp only [List.drop]
  get_elem_tactic_trivial
  refine ⟨rfl, ?_⟩
  refine comp_ok (fun pre tl acc env ν => ν = μ2 ∧ ∃ n, n ≤ sh.length ∧ tl = (sh.drop n).map Ln.toD ∧ acc = ((sh.take n).map (Ln.chg (chgW way))).map Ln.toD ∧ env = [some (0, .ref 0), some (2, lS words), some (2, .int most), some (0, shD sh), some (0, .int (way : Int)), some (0, .dic (kvsOf way)), none]) ⟨rfl, 0, Nat.zero_le _, rfl, rfl, rfl⟩ ?_ ?_ ?_
  · rintro pre x tl acc env ν K' ⟨rfl, n, hn, htl, rfl, rfl⟩ _ hk
    have hn : n < sh.length := by
      rcases Nat.lt_or_ge n sh.length with h | h
      · exact h
      · rw [List.drop_eq_nil_of_le h] at htl; cases htl
    rw [List.drop_eq_getElem_cons hn, List.map_cons] at htl
    obtain ⟨rfl, rfl⟩ := List.cons.inj htl
    have hl := List.getElem?_eq_getElem hn
    have wfl := wf _ _ hl
    have app : K' (some (sh[n].chg (chgW way)).toD) [some (0, .ref 0), some (2, lS words), some (2, .int most), some (0, shD sh), some (0, .int (way : Int)), some (0, .dic (kvsOf way)), none] ν := by
      refine hk _ _ _ ⟨rfl, n + 1, hn, rfl, ?_, rfl⟩
      rw [List.take_succ_eq_append_getElem hn]
      simp only [List.map_append, List.map_cons, List.map_nil]
    get_elem_tactic_trivial
    rw [idx_ln]
    get_elem_tactic_trivial
    rw [idx_ln]
    get_elem_tactic_trivial
    generalize sh[n] = ln at *
    cases ln with
    | letter s =>
      show sliceP (.tup [.str kLetter, .str s]) (some 1) none _
      rw [slice_tup, cut1]
      show bin .add (.tup [(dget (kvsOf way) (.str kLetter)).getD (.str kLetter)]) _ _
      rw [(chg_leaf way).1, bin_add_tup]
      exact ⟨show 1 + 1 ≤ big by decide, app⟩
    | yes =>
      show sliceP (.tup [.str kYes]) (some 1) none _
      rw [slice_tup, cut1]
      show bin .add (.tup [(dget (kvsOf way) (.str kYes)).getD (.str kYes)]) _ _
      rw [(chg_leaf way).2, bin_add_tup]
      exact ⟨show 1 + 0 ≤ big by decide, app⟩
    | op w ms =>
      rw [toD_op, slice_tup, cut1]
      show bin .add (.tup [(dget (kvsOf way) (.str w)).getD (.str w)]) _ _
      rw [(chg_ok way w wfl.1).2, bin_add_tup]
      have := wfl.2.1
      refine ⟨?_, app⟩
      simp only [List.length_map, List.length_cons, List.length_nil, big]
      omega
  · rintro pre x tl acc env ν ⟨rfl, n, hn, htl, rfl, rfl⟩
    simp [big]; omega
  · rintro pre acc env ν ⟨rfl, n, hn, htl, rfl, rfl⟩
    have hn : n = sh.length := by
      have := congrArg List.length htl
      simp at this
      omega
    subst hn
    rw [List.take_length]
    exact post _ _ (wf.chg (fun w h => (chg_ok way w h).1) fun w h => chg_ar way w h) (by simpa using l1) (by simp; omega) hs2
theorem some_ok {words : List (List Nat)} {most : Int} (h : Src μ) (hne : words ≠ []) (hwl : words.length < 100) (hw : ∀ w ∈ words, okS w = true) (h1 : 1 ≤ most) (h2 : most ≤ 28) (post : ∀ sh μ', Wf sh → 1 ≤ sh.length → sh.length ≤ 58 → Src μ' → Q 0 (shD sh) μ') :
    callN Pg (d + 5) "_law_some_sheet" [.ref 0, lS words, .int most] μ Q X := by
  rw [callN_succ]
  refine ⟨d__law_some_sheet, rfl, rfl, ?_⟩
  show wpSs _ _ b__law_some_sheet _ [some (0, .ref 0), some (2, lS words), some (2, .int most), none, none] _
  rw [wpSs_split 2]
  have tail : ∀ sh s4 μ', Wf sh → 1 ≤ sh.length → sh.length ≤ 57 → Src μ' → wpSs (callN Pg (d + 4)) Pg.gl (b__law_some_sheet.drop 2) { nx := fun x μ' => Q 0 D.non μ', rt := Q, bk := fun x x_1 => False, ct := fun x x_1 => False, xc := fun x x_1 μ' => X x μ' } [some (0, .ref 0), some (2, lS words), some (2, .int most), some (0, shD sh), s4] μ' := by
    intro sh s4 μ' wf l1 l2 hs
    dsimp only [b__law_some_sheet, List.drop]
    get_elem_tactic_trivial
    refine pick_ok hs (by decide) fun r μ1 hs1 r0 r1 => ?_
    get_elem_tactic_trivial
    refine ⟨rfl, rfl, ?_⟩
    by_cases c : (r == 0) = true
    · rw [if_pos c]
      exact denied_ok wf l1 (by omega) fun sh' wf' l' => post sh' _ wf' (by omega) (by omega) hs1
    · rw [if_neg c]
      exact post sh _ wf l1 (by omega) hs1
  generalize hK : (fun env μ => wpSs (callN Pg (d + 4)) Pg.gl (b__law_some_sheet.drop 2) { nx := fun x μ' => Q 0 D.non μ', rt := Q, bk := fun x x_1 => False, ct := fun x x_1 => False, xc := fun x x_1 μ' => X x μ' } env μ) = K
  dsimp only [b__law_some_sheet, List.take]
  get_elem_tactic_trivial
  refine kept_ok h hne hwl hw h1 h2 fun sh μ1 wf l1 l2 hs1 => ?_
  get_elem_tactic_trivial
  refine pick_ok hs1 (by decide) fun r μ2 hs2 r0 r1 => ?_
  get_elem_tactic_trivial
  refine ⟨rfl, rfl, ?_⟩
  by_cases c : (r == 0) = true
  · rw [if_pos c]
    refine of_ok hs2 (by simp) (by simp) fun x hx μ3 hs3 => ?_
    obtain ⟨w, rfl, hwo, hwb⟩ : ∃ w, x = .str w ∧ okw w ∧ ar w = 2 := by
      simp only [List.mem_cons, List.not_mem_nil, or_false] at hx
      rcases hx with rfl | rfl | rfl | rfl <;> exact ⟨_, rfl, by decide, rfl⟩
    get_elem_tactic_trivial
    refine kept_ok hs3 hne hwl hw h1 h2 fun sh' μ4 wf' l1' l2' hs4 => ?_
    get_elem_tactic_trivial
    refine put_ok hwo hwb wf wf' l1 (by omega) (by omega) fun sh2 wf2 l3 => ?_
    get_elem_tactic_trivial
    rw [← hK]
    exact tail sh2 _ μ4 wf2 (by omega) (by omega) hs4
  · rw [if_neg c, ← hK]
    exact tail sh _ μ2 wf l1 (by omega) hs2
end
end Law

set_option autoImplicit false
set_option linter.all false
set_option maxRecDepth 10000
namespace Law
open Pv
local macro_rules | `(tactic| get_elem_tactic_trivial) => `(tactic| simp (maxSteps := 2000000) only [wpE_lit, wpE_var, wpE_glob, wpE_tup, wpE_lst, wpE_dnew, wpE_dict, wpE_lrange, wpE_lrange2, wpE_denum2, wpE_sset, wpE_ssetS, wpE_state, wpE_neg, wpE_bin, wpE_cmp, wpE_chain, wpE_and, wpE_or, wpE_not, wpE_ite, wpE_idx, wpE_slice, wpE_rev, wpE_stepS, wpE_call, wpE_blt, wpE_dget, wpE_dget2, wpE_mut, wpE_mutF, wpE_comp, wpE_dict1, wpE_dcomp, wpE_dvals, wpE_indexOf, wpE_tupS, wpE_lstS, wpE_isInst, wpE_gget, wpE_gget2, wpE_gidx, wpE_gmem, wpE_gcd, wpLS_nil, wpLS_star, wpLS_one, wpI_rngD, wpI_rngL, wpI_zip, wpI_items, wpI_keys, bin_bor, bin_band, bin_shl, bin_shr, blt_sum, blt_all, blt_any, blt_maxL, blt_minL, blt_minP,
  wpL_nil, wpL_cons, wpF_nil, wpF_cons, wpA_nil, wpA_lent, wpA_fz, wpB_one, wpB_cons, wpO_none, wpO_some, wpC_nil, wpC_cons, wpI_seq, wpI_rng, wpI_rng2, wpI_enum, wpP_nil, wpP_cons, wpSs_nil, wpSs_cons, wpS_expr, wpS_assign, wpS_par, wpS_setIdx, wpS_aug, wpS_retN, wpS_ret, wpS_ite, wpS_for, wpS_while, wpS_brk, wpS_cont, wpS_pass,
  giveT_var, giveT_tup, giveL_nil, giveL_cons, give_fz, give_fresh, give_bor, esc_fz, esc_fresh, esc_bor, escI_fz, escI_fresh, escI_bor, kept_fz, kept_fresh, kept_bor, retK_fz, retK_fresh, retK_bor,
  List.getElem?_cons_zero, List.getElem?_cons_succ, List.getElem?_nil, List.set_cons_zero, List.set_cons_succ, List.foldl_cons, List.foldl_nil, List.zip_cons_cons, List.zip_nil_left, List.zip_nil_right, List.zipWith_cons_cons, List.zipWith_nil_left, List.zipWith_nil_right, List.length_cons, List.length_nil, List.replicate, List.cons_append, List.nil_append, List.set_nil, wipeE, back, back,
  Option.some.injEq, Prod.mk.injEq, exists_and_left, exists_eq_left', exists_eq_right', exists_eq', and_true, true_and, and_assoc, if_true, if_false, ↓reduceIte, reduceCtorEq, false_and, and_false, exists_false, or_false, false_or, D.int.injEq, D.str.injEq, D.tup.injEq, D.lst.injEq, D.dic.injEq, D.ref.injEq, D.bl.injEq, List.cons.injEq,
  getF, setF, List.find?_cons, List.find?_nil, Option.map_some, Option.map_none, tru_bl, tru_int, tru_non, tru_tup, tru_lst, tru_str, bin_add_int, bin_sub_int, bin_mul_int, bin_fdiv_int, bin_mod_int, bin_pow_int, bin_add_str, bin_add_lst, bin_add_tup, bin_mul_lst, bin_mul_tup, cmp_lt_int, cmp_le_int, cmp_gt_int, cmp_ge_int, cmp_lt_str, cmp_le_str, cmp_gt_str, cmp_ge_str, cmp_eq_rep, cmp_ne_rep, cmp_eq_int, cmp_eq_str, cmp_eq_tup, cmp_eq_lst, cmp_eq_bl, cmp_ne_int, cmp_ne_str, cmp_ne_tup, cmp_ne_lst, cmp_ne_bl, cmp_mem, cmp_notMem, mem_tup, mem_lst, mem_dic, idx_tup, idx_lst, idx_str, idx_dic_int, idx_dic_str, idx_ref, isKey_int, isKey_str, blt_len_tup, blt_len_lst, blt_len_dic, blt_len_str, blt_abs, blt_int, blt_int_bl, blt_max, blt_min, blt_list_lst, blt_list_tup, blt_tuple_lst, blt_tuple_tup, blt_repr, blt_sorted, kind_int, kind_str, kind_bl, kind_tup, kind_rep, kind_non, kind_lst, kind_dic, optI_none, optI_some, slice_tup, slice_lst, slice_str, rev_lst, rev_tup, items_tup, items_lst, mut_append, mut_pop, mut_popAt, mut_extend, set_lst, set_dic, Nat.reduceSub, Nat.reduceAdd, nil_beq, eq_self, Nat.reduceBEq, List.cons_beq_cons, List.isEmpty_cons, List.isEmpty_nil, Bool.and_true, Bool.and_false, Bool.true_and, Bool.false_and, Bool.not_true, Bool.not_false, Bool.false_eq_true, List.map_cons, List.map_nil, decide_eq_true_eq, Nat.reduceEqDiff])
section
variable {d : Nat} {μ : Store} {Q : Nat → D → Store → Prop} {X : D → Store → Prop}
/-- the shorter list of words -/
theorem words13_ok {many : Nat} (h : Src μ) (hm : 1 ≤ many) (post : ∀ ws μ', (∀ w ∈ ws, okS w = true) → ws ≠ [] → ws.length ≤ 13 → ws.length ≤ many → Src μ' → Q 1 (lS ws) μ') : callN Pg (d + 3) "_law_words" [.ref 0, .int (many : Int)] μ Q X := by
  rw [callN_succ]
  refine ⟨d__law_words, rfl, rfl, ?_⟩
  show wpSs _ _ b__law_words _ [some (0, .ref 0), some (2, .int (many : Int)), none] _
  unfold b__law_words
  get_elem_tactic_trivial
  refine mixed_ok h (by simp) fun acc μ' hp hs => ?_
  obtain ⟨l', rfl, hl⟩ := perm_map_str (l := [[97], [98], [99], [112], [113], [121, 101, 115], [110, 111, 116], [117, 110, 116, 105, 108], [115, 105, 110, 99, 101], [108, 101, 102, 116], [120, 49], [97, 98], [97, 98, 99, 100, 101, 102, 103, 104, 105, 106, 107, 108]]) hp
  have h13 : l'.length = 13 := hl.length_eq
  refine ⟨trivial, ?_⟩
  get_elem_tactic_trivial
  have ct : cut (l'.map D.str) none (some (many : Int)) = (l'.take many).map D.str := by
    show ((l'.map D.str).drop 0).take ((if (many : Int) < 0 then ((many : Int) + (((l'.map D.str).length : Nat) : Int)).toNat else min (many : Int).toNat (l'.map D.str).length) - 0) = _
    rw [if_neg (by omega), Int.toNat_natCast, List.drop_zero, List.map_take, Nat.sub_zero, List.take_eq_take_iff]
    omega
  rw [ct]
  refine .inr ⟨_, strsOf_map _, post _ _ (fun w hw => ?_) ?_ ?_ ?_ hs⟩
  · have hw := (sortS_perm _).mem_iff.mp hw
    have hw := hl.mem_iff.mp (List.mem_of_mem_take hw)
    have all : ∀ w ∈ ([[97], [98], [99], [112], [113], [121, 101, 115], [110, 111, 116], [117, 110, 116, 105, 108], [115, 105, 110, 99, 101], [108, 101, 102, 116], [120, 49], [97, 98], [97, 98, 99, 100, 101, 102, 103, 104, 105, 106, 107, 108]] : List (List Nat)), okS w = true := by decide
    exact all w hw
  · intro h0
    have h3 := (sortS_perm (l'.take many)).length_eq
    rw [h0, List.length_take, h13] at h3
    simp at h3
    omega
  · rw [(sortS_perm _).length_eq, List.length_take]; omega
  · rw [(sortS_perm _).length_eq, List.length_take]; omega
end
end Law

set_option autoImplicit false
set_option linter.all false
set_option maxRecDepth 10000
set_option maxHeartbeats 1000000
namespace Law
open Pv
local macro_rules | `(tactic| get_elem_tactic_trivial) => `(tactic| simp (maxSteps := 2000000) only [wpE_lit, wpE_var, wpE_glob, wpE_tup, wpE_lst, wpE_dnew, wpE_dict, wpE_lrange, wpE_lrange2, wpE_denum2, wpE_sset, wpE_ssetS, wpE_state, wpE_neg, wpE_bin, wpE_cmp, wpE_chain, wpE_and, wpE_or, wpE_not, wpE_ite, wpE_idx, wpE_slice, wpE_rev, wpE_stepS, wpE_call, wpE_blt, wpE_dget, wpE_dget2, wpE_mut, wpE_mutF, wpE_comp, wpE_dict1, wpE_dcomp, wpE_dvals, wpE_indexOf, wpE_tupS, wpE_lstS, wpE_isInst, wpE_gget, wpE_gget2, wpE_gidx, wpE_gmem, wpE_gcd, wpLS_nil, wpLS_star, wpLS_one, wpI_rngD, wpI_rngL, wpI_zip, wpI_items, wpI_keys, bin_bor, bin_band, bin_shl, bin_shr, blt_sum, blt_all, blt_any, blt_maxL, blt_minL, blt_minP, blt_sortP,
  wpL_nil, wpL_cons, wpF_nil, wpF_cons, wpA_nil, wpA_lent, wpA_fz, wpB_one, wpB_cons, wpO_none, wpO_some, wpC_nil, wpC_cons, wpI_seq, wpI_rng, wpI_rng2, wpI_enum, wpP_nil, wpP_cons, wpSs_nil, wpSs_cons, wpS_expr, wpS_assign, wpS_par, wpS_setIdx, wpS_aug, wpS_retN, wpS_ret, wpS_ite, wpS_for, wpS_while, wpS_brk, wpS_cont, wpS_pass,
  giveT_var, giveT_tup, giveL_nil, giveL_cons, give_fz, give_fresh, give_bor, esc_fz, esc_fresh, esc_bor, escI_fz, escI_fresh, escI_bor, kept_fz, kept_fresh, kept_bor, retK_fz, retK_fresh, retK_bor,
  List.getElem?_cons_zero, List.getElem?_cons_succ, List.getElem?_nil, List.set_cons_zero, List.set_cons_succ, List.foldl_cons, List.foldl_nil, List.zip_cons_cons, List.zip_nil_left, List.zip_nil_right, List.zipWith_cons_cons, List.zipWith_nil_left, List.zipWith_nil_right, List.length_cons, List.length_nil, List.replicate, List.cons_append, List.nil_append, List.set_nil, wipeE, back, back,
  Option.some.injEq, Prod.mk.injEq, exists_and_left, exists_eq_left', exists_eq_right', exists_eq', and_true, true_and, and_assoc, if_true, if_false, ↓reduceIte, reduceCtorEq, false_and, and_false, exists_false, or_false, false_or, D.int.injEq, D.str.injEq, D.tup.injEq, D.lst.injEq, D.dic.injEq, D.ref.injEq, D.bl.injEq, List.cons.injEq,
  getF, setF, List.find?_cons, List.find?_nil, Option.map_some, Option.map_none, tru_bl, tru_int, tru_non, tru_tup, tru_lst, tru_str, bin_add_int, bin_sub_int, bin_mul_int, bin_fdiv_int, bin_mod_int, bin_pow_int, bin_add_str, bin_add_lst, bin_add_tup, bin_mul_lst, bin_mul_tup, cmp_lt_int, cmp_le_int, cmp_gt_int, cmp_ge_int, cmp_lt_str, cmp_le_str, cmp_gt_str, cmp_ge_str, cmp_eq_rep, cmp_ne_rep, cmp_eq_int, cmp_eq_str, cmp_eq_tup, cmp_eq_lst, cmp_eq_bl, cmp_ne_int, cmp_ne_str, cmp_ne_tup, cmp_ne_lst, cmp_ne_bl, cmp_mem, cmp_notMem, mem_tup, mem_lst, mem_dic, idx_tup, idx_lst, idx_str, idx_dic_int, idx_dic_str, idx_ref, isKey_int, isKey_str, blt_len_tup, blt_len_lst, blt_len_dic, blt_len_str, blt_abs, blt_int, blt_int_bl, blt_max, blt_min, blt_list_lst, blt_list_tup, blt_tuple_lst, blt_tuple_tup, blt_repr, blt_sorted, kind_int, kind_str, kind_bl, kind_tup, kind_rep, kind_non, kind_lst, kind_dic, optI_none, optI_some, slice_tup, slice_lst, slice_str, rev_lst, rev_tup, items_tup, items_lst, mut_append, mut_pop, mut_popAt, mut_extend, set_lst, set_dic, Nat.reduceSub, Nat.reduceAdd, nil_beq, eq_self, Nat.reduceBEq, List.cons_beq_cons, List.isEmpty_cons, List.isEmpty_nil, Bool.and_true, Bool.and_false, Bool.true_and, Bool.false_and, Bool.not_true, Bool.not_false, Bool.false_eq_true, List.map_cons, List.map_nil, decide_eq_true_eq, Nat.reduceEqDiff, atI_c0, atI_c1, atI_c2, atI_c3, cut_c1, List.length_map, Int.toNat_natCast, and_self, List.map_append])
section
variable {d : Nat} {μ : Store} {Q : Nat → D → Store → Prop} {X : D → Store → Prop} {E : Ends} {sh P f : List Ln} {k n m x i j l1 : Nat} {pl : List Nat} {ln a b : Ln} {w : List Nat} {fo : Int}
/-! ### mirrored, denied -/
def mirW (w : List Nat) : List Nat := if w = kUntil then kSince else if w = kSince then kUntil else w
abbrev mir (sh : List Ln) : List Ln := sh.map (Ln.chg mirW)
def mirD : List (D × D) := [(.str kUntil, .str kSince), (.str kSince, .str kUntil)]
theorem mirW_okw (h : okw w) : okw (mirW w) ∧ ar (mirW w) = ar w := by
  rcases h with rfl | rfl | rfl | rfl | rfl <;> exact ⟨by unfold okw; decide, by decide⟩
theorem mir_get (h : okw w) : (dget mirD (.str w)).getD (.str w) = .str (mirW w) := by
  rcases h with rfl | rfl | rfl | rfl | rfl <;> rfl
theorem mir_toD : (sh.map fun l => (l.chg mirW).toD) = (mir sh).map Ln.toD := by rw [List.map_map]; rfl
theorem mir_wf (wf : Wf sh) : Wf (mir sh) := fun i l e => by
  rw [List.getElem?_map] at e
  cases q : sh[i]? with
  | none => rw [q] at e; cases e
  | some x =>
    rw [q] at e
    cases e
    have wx := wf _ _ q
    cases x with
    | letter s => exact wx
    | yes => exact wx
    | op w ms => exact ⟨(mirW_okw wx.1).1, wx.2.1, wx.2.2.1, wx.2.2.2.trans (mirW_okw wx.1).2.symm⟩
theorem lmirrored_ok (wf : Wf sh) (hs : sh.length < 10000) (post : Q 0 (shD (mir sh)) μ) : callN Pg (d + 1) "_law_mirrored" [shD sh] μ Q X := by
  rw [callN_succ]
  refine ⟨d__law_mirrored, rfl, rfl, ?_⟩
  show wpSs _ _ b__law_mirrored _ [some (2, shD sh), none, none] _
  unfold b__law_mirrored
  get_elem_tactic_trivial
  refine ⟨rfl, ?_⟩
  refine comp_map sh Ln.toD (fun l => (l.chg mirW).toD) (fun l hl K' hk => ?_) (by show _ ≤ 16777216; omega) ?_
  · obtain ⟨n, hn, rfl⟩ := List.getElem_of_mem hl
    have wfl := wf _ _ (List.getElem?_eq_getElem hn)
    get_elem_tactic_trivial
    rw [idx_ln]
    get_elem_tactic_trivial
    rw [idx_ln]
    get_elem_tactic_trivial
    generalize sh[n] = ln at *
    cases ln with
    | letter s =>
      show sliceP (.tup [.str kLetter, .str s]) (some 1) none _
      rw [slice_tup, cut1]
      exact ⟨show 1 + 1 ≤ big by decide, hk⟩
    | yes =>
      show sliceP (.tup [.str kYes]) (some 1) none _
      rw [slice_tup, cut1]
      exact ⟨show 1 + 0 ≤ big by decide, hk⟩
    | op w ms =>
      rw [toD_op, slice_tup, cut1]
      show bin .add (.tup [(dget mirD (.str w)).getD (.str w)]) _ _
      rw [mir_get wfl.1, bin_add_tup]
      have := wfl.2.1
      refine ⟨?_, hk⟩
      simp only [List.length_map, List.length_cons, List.length_nil, big]
      omega
  · rw [mir_toD]
    exact post
abbrev den (sh : List Ln) : List Ln := sh ++ [.op kNot [sh.length - 1]]
theorem den_wf (wf : Wf sh) (h1 : 1 ≤ sh.length) : Wf (den sh) :=
  wf.snoc (l := .op kNot [sh.length - 1]) ⟨.inl rfl, by simp, fun m hm => by rw [List.mem_singleton.mp hm]; omega, rfl⟩
theorem ldenied_ok (wf : Wf sh) (h1 : 1 ≤ sh.length) (hl : sh.length < 1000) (post : Q 0 (shD (den sh)) μ) : callN Pg (d + 1) "_law_denied" [shD sh] μ Q X := by
  rw [callN_succ]
  refine ⟨d__law_denied, rfl, rfl, ?_⟩
  show wpSs _ _ b__law_denied _ [some (2, shD sh)] _
  unfold b__law_denied
  get_elem_tactic_trivial
  rw [last_int h1]
  refine ⟨by unfold big; omega, ?_⟩
  rw [show shD (den sh) = .tup (sh.map Ln.toD ++ [.tup [.str kNot, .int ((sh.length - 1 : Nat) : Int)]]) by simp [den, Ln.toD]] at post
  exact post
theorem mir_at (h : sh[x]? = some ln) : (mir sh)[x]? = some (ln.chg mirW) := by rw [List.getElem?_map, h]; rfl
theorem mir_TR (wf : Wf sh) (h1 : 1 ≤ sh.length) : TR (mir sh) ((mir sh).length - 1) = TR sh (sh.length - 1) := by
  have hw : ∀ l : Ln, (∃ i, WfL i l) → (l.chg mirW).word = mirW l.word := fun l ⟨i, h⟩ => by
    cases l with
    | letter s => rfl
    | yes => rfl
    | op w ms => rfl
  have hm : ∀ l : Ln, (l.chg mirW).mem = l.mem := fun l => by cases l <;> rfl
  have inj : ∀ u v : List Nat, (u = kUntil ∨ u = kSince) → (v = kUntil ∨ v = kSince) → (mirW u = mirW v ↔ u = v) := by
    intro u v hu hv
    rcases hu with rfl | rfl <;> rcases hv with rfl | rfl <;> decide
  have lk : ∀ u : List Nat, (mirW u == kUntil || mirW u == kSince) = (u == kUntil || u == kSince) := by
    intro u
    unfold mirW
    by_cases c1 : u = kUntil
    · subst c1; decide
    · rw [if_neg c1]
      by_cases c2 : u = kSince
      · subst c2; decide
      · rw [if_neg c2]
  have M : Mor sh (mir sh) id (sh.length - 1) := by
    have at' : ∀ x, Rch sh (sh.length - 1) x → ∃ l, sh[x]? = some l ∧ (mir sh)[x]? = some (l.chg mirW) := fun x hx => by
      have hxl := hx.lt wf (by omega)
      exact ⟨_, List.getElem?_eq_getElem hxl, mir_at (List.getElem?_eq_getElem hxl)⟩
    have wd : ∀ x, Rch sh (sh.length - 1) x → wordAt (mir sh) x = mirW (wordAt sh x) := fun x hx => by
      obtain ⟨l, e1, e2⟩ := at' x hx
      rw [word_at e1, word_at e2, hw l ⟨_, wf _ _ e1⟩]
    refine ⟨wf, mir_wf wf, fun x hx => ?_, fun x hx => ?_, fun x y hx hy lx ly => ?_⟩
    · show lkA (mir sh) x = _
      unfold lkA; rw [wd x hx, lk]
    · obtain ⟨l, e1, e2⟩ := at' x hx
      show memAt (mir sh) x = _
      rw [mem_at e1, mem_at e2, hm, List.map_id]
    · show wordAt (mir sh) x = wordAt (mir sh) y ↔ _
      rw [wd x hx, wd y hy]
      exact inj _ _ (lkA_word lx) (lkA_word ly)
  have := M.TR (.refl _)
  rw [List.length_map]
  exact this
/-- a line behind a sheet that needs its last line, and nothing else with looks -/
structure Apd (sh : List Ln) (l : Ln) : Prop where
  wf : Wf sh
  wf' : Wf (sh ++ [l])
  h1 : 1 ≤ sh.length
  last : sh.length - 1 ∈ l.mem
  else_ : ∀ p ∈ l.mem, p = sh.length - 1 ∨ (sh[p]? = some (.letter [97]))
theorem Apd.mem (A : Apd sh ln) : memAt (sh ++ [ln]) sh.length = ln.mem := mem_at (by rw [List.getElem?_append_right (Nat.le_refl _), Nat.sub_self]; rfl)
theorem Apd.word (A : Apd sh ln) : wordAt (sh ++ [ln]) sh.length = ln.word := word_at (by rw [List.getElem?_append_right (Nat.le_refl _), Nat.sub_self]; rfl)
theorem Apd.mor (A : Apd sh ln) : Mor sh (sh ++ [ln]) id (sh.length - 1) := Mor.front A.wf A.wf' (by have := A.h1; omega)
theorem Apd.back (A : Apd sh ln) (hl : lkA sh n = true) (r : Rch sh (sh.length - 1) n) : lkA (sh ++ [ln]) n = true ∧ Rch (sh ++ [ln]) sh.length n ∧ Tn (sh ++ [ln]) n = Tn sh n ∧ wordAt (sh ++ [ln]) n = wordAt sh n ∧ n ≠ sh.length := by
  have M := A.mor
  have hn := r.lt A.wf (by have := A.h1; omega)
  refine ⟨(M.lk n r).trans hl, .head (by rw [A.mem]; exact A.last) (M.to (.refl _) r), M.T n r hl, ?_, by omega⟩
  unfold wordAt
  rw [List.getElem?_append_left hn]
theorem Apd.look (A : Apd sh ln) (hl : lkA (sh ++ [ln]) n = true) (r : Rch (sh ++ [ln]) sh.length n) : n = sh.length ∨ (lkA sh n = true ∧ Rch sh (sh.length - 1) n) := by
  have M := A.mor
  rcases r.hd with e | ⟨p, hp, hr⟩
  · exact .inl e
  · rw [A.mem] at hp
    rcases A.else_ p hp with rfl | hp
    · obtain ⟨x, hx, e⟩ := M.of (.refl _) hr
      have e : x = n := e
      subst e
      exact .inr ⟨(M.lk x hx).symm.trans hl, hx⟩
    · have hpl := (List.getElem?_eq_some_iff.mp hp).1
      have e1 : (sh ++ [ln])[p]? = some (.letter [97]) := by rw [List.getElem?_append_left hpl]; exact hp
      rcases hr.hd with e | ⟨q, hq, _⟩
      · rw [e] at hl
        unfold lkA at hl
        rw [word_at e1] at hl
        exact absurd hl (by decide)
      · rw [mem_at e1] at hq; cases hq
theorem Apd.TR (A : Apd sh ln) (hl : lkA (sh ++ [ln]) sh.length = false) : TR (sh ++ [ln]) ((sh ++ [ln]).length - 1) = TR sh (sh.length - 1) := by
  rw [List.length_append, List.length_singleton, Nat.add_sub_cancel]
  have p1 : 0 ≤ Law.TR sh (sh.length - 1) := TR_pos
  have p2 : 0 ≤ Law.TR (sh ++ [ln]) sh.length := TR_pos
  have a : Law.TR (sh ++ [ln]) sh.length ≤ Law.TR sh (sh.length - 1) := by
    rcases TR_ex A.wf' (k := sh.length) with h | ⟨y, h1, h2, h3⟩
    · omega
    · rcases A.look h1 h2 with e | ⟨h4, h5⟩
      · rw [e, hl] at h1; cases h1
      · rw [h3, (A.back h4 h5).2.2.1]
        exact TR_ge A.wf h4 h5
  have b : Law.TR sh (sh.length - 1) ≤ Law.TR (sh ++ [ln]) sh.length := by
    rcases TR_ex A.wf (k := sh.length - 1) with h | ⟨y, h1, h2, h3⟩
    · omega
    · obtain ⟨h4, h5, h6, _⟩ := A.back h1 h2
      rw [h3, ← h6]
      exact TR_ge A.wf' h4 h5
  omega
theorem den_TR (wf : Wf sh) (h1 : 1 ≤ sh.length) : Law.TR (den sh) ((den sh).length - 1) = Law.TR sh (sh.length - 1) := by
  have A : Apd sh (.op kNot [sh.length - 1]) := ⟨wf, den_wf wf h1, h1, List.mem_singleton_self _, fun p hp => .inl (List.mem_singleton.mp hp)⟩
  refine A.TR ?_
  unfold lkA
  rw [A.word]
  show (kNot == kUntil || kNot == kSince) = false
  decide
/-! ### ladders -/
structure Lad (sh : List Ln) (last : List Nat) (fo : Int) : Prop where
  wf : Wf sh
  h1 : 1 ≤ sh.length
  zero : sh[0]? = some (.letter [97])
  top : ∀ n, lkA sh n = true → Rch sh (sh.length - 1) n → Tn sh n ≤ fo ∧ Tn sh n + wn sh n last ≤ fo
  hit : (last = [] ∧ fo = 0 ∧ ∀ n, Rch sh (sh.length - 1) n → lkA sh n = false) ∨ ((last = kUntil ∨ last = kSince) ∧ ∃ n, lkA sh n = true ∧ Rch sh (sh.length - 1) n ∧ wordAt sh n = last ∧ Tn sh n = fo)
theorem Lad.TR {last : List Nat} (h : Lad sh last fo) : Law.TR sh (sh.length - 1) = fo := by
  have p : 0 ≤ Law.TR sh (sh.length - 1) := TR_pos
  rcases h.hit with ⟨_, e2, e3⟩ | ⟨_, n, h1, h2, _, h3⟩
  · rcases TR_ex h.wf (k := sh.length - 1) with e | ⟨n, h1, h2, h3⟩
    · omega
    · rw [e3 n h2] at h1; cases h1
  · have g := TR_ge h.wf h1 h2
    have p3 := Tn_pos h.wf (k := n)
    rcases TR_ex h.wf (k := sh.length - 1) with e | ⟨n', h1', h2', h3'⟩
    · omega
    · have := (h.top n' h1' h2').1
      omega
theorem Lad.start : Lad [.letter [97]] [] 0 := by
  have wf : Wf [.letter [97]] := fun i l e => by
    match i, e with
    | 0, e => cases e; rfl
    | i + 1, e => simp at e
  have no : ∀ n, Rch [.letter [97]] 0 n → lkA [.letter [97]] n = false := fun n r => by
    have := r.le wf
    obtain rfl : n = 0 := by omega
    decide
  exact ⟨wf, by decide, rfl, fun n h r => (by rw [no n r] at h; cases h), .inl ⟨rfl, rfl, no⟩⟩
theorem Lad.plain {last : List Nat} (h : Lad sh last fo) (A : Apd sh ln) (hl : lkA (sh ++ [ln]) sh.length = false) : Lad (sh ++ [ln]) last fo := by
  have e : (sh ++ [ln]).length - 1 = sh.length := by rw [List.length_append, List.length_singleton, Nat.add_sub_cancel]
  refine ⟨A.wf', by rw [List.length_append]; have := h.h1; omega, by rw [List.getElem?_append_left (by have := h.h1; omega)]; exact h.zero, fun n h1 h2 => ?_, ?_⟩
  · rw [e] at h2
    rcases A.look h1 h2 with e2 | ⟨h3, h4⟩
    · rw [e2, hl] at h1; cases h1
    · obtain ⟨_, _, h5, h6, _⟩ := A.back h3 h4
      unfold wn
      rw [h5, h6]
      exact h.top n h3 h4
  · rw [e]
    rcases h.hit with ⟨e1, e2, e3⟩ | ⟨e1, n, h1, h2, h3, h4⟩
    · refine .inl ⟨e1, e2, fun n hn => ?_⟩
      cases c : lkA (sh ++ [ln]) n with
      | false => rfl
      | true =>
        rcases A.look c hn with e2 | ⟨h3, h4⟩
        · rw [e2, hl] at c; cases c
        · rw [e3 n h4] at h3; cases h3
    · obtain ⟨h5, h6, h7, h8, _⟩ := A.back h1 h2
      exact .inr ⟨e1, n, h5, h6, h8.trans h3, h7.trans h4⟩
theorem Lad.rung {last : List Nat} (h : Lad sh last fo) (A : Apd sh ln) (hw : ln.word = w) (hw2 : w = kUntil ∨ w = kSince) : Lad (sh ++ [ln]) w (fo + if last = [] ∨ last = w then 0 else 1) := by
  have e : (sh ++ [ln]).length - 1 = sh.length := by rw [List.length_append, List.length_singleton, Nat.add_sub_cancel]
  have wL : wordAt (sh ++ [ln]) sh.length = w := A.word.trans hw
  have hl : lkA (sh ++ [ln]) sh.length = true := by
    unfold lkA; rw [wL]
    rcases hw2 with rfl | rfl <;> decide
  generalize hfo : (fo + if last = [] ∨ last = w then 0 else 1) = fo'
  have f0 : 0 ≤ fo := by
    rcases h.hit with ⟨_, e2, _⟩ | ⟨_, n, _, _, _, h4⟩
    · omega
    · rw [← h4]; exact Tn_pos h.wf
  have f1 : fo ≤ fo' := by rw [← hfo]; split <;> omega
  have nw : ∀ n, wordAt (sh ++ [ln]) n = wordAt sh n → ne (sh ++ [ln]) n sh.length = if wordAt sh n = w then 0 else 1 := fun n hn => by
    unfold ne; rw [hn, wL]
  have up : Tn (sh ++ [ln]) sh.length ≤ fo' := by
    rcases Tn_ex A.wf' hl with h0 | ⟨n, h1, h2, h3, h4⟩
    · omega
    · rcases A.look h1 h2 with e2 | ⟨h5, h6⟩
      · exact absurd e2 h3
      · obtain ⟨_, _, h7, h8, _⟩ := A.back h5 h6
        rw [h4, h7, nw n h8]
        obtain ⟨t1, t2⟩ := h.top n h5 h6
        rcases h.hit with ⟨_, _, e3⟩ | ⟨hlast, _⟩
        · rw [e3 n h6] at h5; cases h5
        · rw [← hfo]
          unfold wn at t2
          by_cases c : last = w
          · rw [if_pos (show last = [] ∨ last = w from .inr c)]
            rw [c] at t2
            omega
          · have : ¬ (last = [] ∨ last = w) := by
              rintro (c2 | c2)
              · rcases hlast with c3 | c3 <;> rw [c3] at c2 <;> cases c2
              · exact c c2
            rw [if_neg this]
            split <;> omega
  have lo : fo' ≤ Tn (sh ++ [ln]) sh.length := by
    rcases h.hit with ⟨e1, e2, e3⟩ | ⟨hlast, n, h1, h2, h3, h4⟩
    · rw [← hfo, if_pos (.inl e1), e2]
      have := Tn_pos A.wf' (k := sh.length)
      omega
    · obtain ⟨h5, h6, h7, h8, h9⟩ := A.back h1 h2
      have := Tn_ge A.wf' hl h5 h6 h9
      rw [h7, h4, nw n h8, h3] at this
      rw [← hfo]
      by_cases c : last = w
      · rw [if_pos (.inr c)]; rw [if_pos c] at this; exact this
      · have c2 : ¬ (last = [] ∨ last = w) := by
          rintro (c2 | c2)
          · rcases hlast with c3 | c3 <;> rw [c3] at c2 <;> cases c2
          · exact c c2
        rw [if_neg c2]; rw [if_neg c] at this; exact this
  have eT : Tn (sh ++ [ln]) sh.length = fo' := by omega
  refine ⟨A.wf', by rw [List.length_append]; have := h.h1; omega, by rw [List.getElem?_append_left (by have := h.h1; omega)]; exact h.zero, fun n h1 h2 => ?_, ?_⟩
  · rw [e] at h2
    rcases A.look h1 h2 with e2 | ⟨h3, h4⟩
    · rw [e2, eT]
      unfold wn
      rw [wL, if_pos rfl]; omega
    · obtain ⟨h5, h6, h7, h8, h9⟩ := A.back h3 h4
      have t := (h.top n h3 h4).1
      have g := Tn_ge A.wf' hl h5 h6 h9
      rw [nw n h8, eT] at g
      unfold wn
      rw [h8]
      rw [h7] at g ⊢
      exact ⟨by omega, g⟩
  · rw [e]
    exact .inr ⟨hw2, sh.length, hl, .refl _, wL, eT⟩
end
end Law

set_option autoImplicit false
set_option linter.all false
set_option maxRecDepth 10000
set_option maxHeartbeats 1000000
namespace Law
open Pv
local macro_rules | `(tactic| get_elem_tactic_trivial) => `(tactic| simp (maxSteps := 2000000) only [wpE_lit, wpE_var, wpE_glob, wpE_tup, wpE_lst, wpE_dnew, wpE_dict, wpE_lrange, wpE_lrange2, wpE_denum2, wpE_sset, wpE_ssetS, wpE_state, wpE_neg, wpE_bin, wpE_cmp, wpE_chain, wpE_and, wpE_or, wpE_not, wpE_ite, wpE_idx, wpE_slice, wpE_rev, wpE_stepS, wpE_call, wpE_blt, wpE_dget, wpE_dget2, wpE_mut, wpE_mutF, wpE_comp, wpE_dict1, wpE_dcomp, wpE_dvals, wpE_indexOf, wpE_tupS, wpE_lstS, wpE_isInst, wpE_gget, wpE_gget2, wpE_gidx, wpE_gmem, wpE_gcd, wpLS_nil, wpLS_star, wpLS_one, wpI_rngD, wpI_rngL, wpI_zip, wpI_items, wpI_keys, bin_bor, bin_band, bin_shl, bin_shr, blt_sum, blt_all, blt_any, blt_maxL, blt_minL, blt_minP, blt_sortP,
  wpL_nil, wpL_cons, wpF_nil, wpF_cons, wpA_nil, wpA_lent, wpA_fz, wpB_one, wpB_cons, wpO_none, wpO_some, wpC_nil, wpC_cons, wpI_seq, wpI_rng, wpI_rng2, wpI_enum, wpP_nil, wpP_cons, wpSs_nil, wpSs_cons, wpS_expr, wpS_assign, wpS_par, wpS_setIdx, wpS_aug, wpS_retN, wpS_ret, wpS_ite, wpS_for, wpS_while, wpS_brk, wpS_cont, wpS_pass,
  giveT_var, giveT_tup, giveL_nil, giveL_cons, give_fz, give_fresh, give_bor, esc_fz, esc_fresh, esc_bor, escI_fz, escI_fresh, escI_bor, kept_fz, kept_fresh, kept_bor, retK_fz, retK_fresh, retK_bor,
  List.getElem?_cons_zero, List.getElem?_cons_succ, List.getElem?_nil, List.set_cons_zero, List.set_cons_succ, List.foldl_cons, List.foldl_nil, List.zip_cons_cons, List.zip_nil_left, List.zip_nil_right, List.zipWith_cons_cons, List.zipWith_nil_left, List.zipWith_nil_right, List.length_cons, List.length_nil, List.replicate, List.cons_append, List.nil_append, List.set_nil, wipeE, back, back,
  Option.some.injEq, Prod.mk.injEq, exists_and_left, exists_eq_left', exists_eq_right', exists_eq', and_true, true_and, and_assoc, if_true, if_false, ↓reduceIte, reduceCtorEq, false_and, and_false, exists_false, or_false, false_or, D.int.injEq, D.str.injEq, D.tup.injEq, D.lst.injEq, D.dic.injEq, D.ref.injEq, D.bl.injEq, List.cons.injEq,
  getF, setF, List.find?_cons, List.find?_nil, Option.map_some, Option.map_none, tru_bl, tru_int, tru_non, tru_tup, tru_lst, tru_str, bin_add_int, bin_sub_int, bin_mul_int, bin_fdiv_int, bin_mod_int, bin_pow_int, bin_add_str, bin_add_lst, bin_add_tup, bin_mul_lst, bin_mul_tup, cmp_lt_int, cmp_le_int, cmp_gt_int, cmp_ge_int, cmp_lt_str, cmp_le_str, cmp_gt_str, cmp_ge_str, cmp_eq_rep, cmp_ne_rep, cmp_eq_int, cmp_eq_str, cmp_eq_tup, cmp_eq_lst, cmp_eq_bl, cmp_ne_int, cmp_ne_str, cmp_ne_tup, cmp_ne_lst, cmp_ne_bl, cmp_mem, cmp_notMem, mem_tup, mem_lst, mem_dic, idx_tup, idx_lst, idx_str, idx_dic_int, idx_dic_str, idx_ref, isKey_int, isKey_str, blt_len_tup, blt_len_lst, blt_len_dic, blt_len_str, blt_abs, blt_int, blt_int_bl, blt_max, blt_min, blt_list_lst, blt_list_tup, blt_tuple_lst, blt_tuple_tup, blt_repr, blt_sorted, kind_int, kind_str, kind_bl, kind_tup, kind_rep, kind_non, kind_lst, kind_dic, optI_none, optI_some, slice_tup, slice_lst, slice_str, rev_lst, rev_tup, items_tup, items_lst, mut_append, mut_pop, mut_popAt, mut_extend, set_lst, set_dic, Nat.reduceSub, Nat.reduceAdd, nil_beq, eq_self, Nat.reduceBEq, List.cons_beq_cons, List.isEmpty_cons, List.isEmpty_nil, Bool.and_true, Bool.and_false, Bool.true_and, Bool.false_and, Bool.not_true, Bool.not_false, Bool.false_eq_true, List.map_cons, List.map_nil, decide_eq_true_eq, Nat.reduceEqDiff, atI_c0, atI_c1, atI_c2, atI_c3, cut_c1, List.length_map, Int.toNat_natCast, and_self, List.map_append])
def laB : List S := match b__law_ladder with | [_, .for_ _ _ _ b, _] => b | _ => []
def laI : List S := match laB with | [_, _, _, .for_ _ _ _ b] => b | _ => []
def taB : List S := match b__law_tall with | [_, .for_ _ _ _ b, _] => b | _ => []
section
variable {d : Nat} {μ : Store} {Q : Nat → D → Store → Prop} {X : D → Store → Prop} {E : Ends} {sh P f : List Ln} {k n m x i j l1 : Nat} {pl : List Nat} {ln a b : Ln} {w last : List Nat} {fo : Int}
theorem shD_snoc : D.tup (sh.map Ln.toD ++ [ln.toD]) = shD (sh ++ [ln]) := by simp
theorem apd_of (h : Lad sh last fo) (hw : WfL sh.length ln) (hl : sh.length - 1 ∈ ln.mem) (he : ∀ p ∈ ln.mem, p = sh.length - 1 ∨ p = 0) : Apd sh ln :=
  ⟨h.wf, h.wf.snoc hw, h.h1, hl, fun p hp => (he p hp).imp id fun e => by rw [e]; exact h.zero⟩
theorem la_in {C2 : Nat} (hs : Src μ) (h : Lad sh last fo) (hl : sh.length ≤ 1000) {s1 s3 s4 s5 s6 s7 s8 : Option (Nat × D)}
    (hk : ∀ l μ' s8, Lad (sh ++ [l]) last fo → Src μ' → E.nx [some (0, .ref 0), s1, some (0, shD (sh ++ [l])), s3, s4, s5, s6, s7, s8] μ') :
    wpSs (callN Pg (d + 2)) Pg.gl laI E [some (0, .ref 0), s1, some (0, shD sh), s3, s4, s5, s6, s7, s8] μ := by
  have h1 := h.h1
  dsimp only [laI, laB, b__law_ladder]
  get_elem_tactic_trivial
  rw [last_int h1]
  have fin : ∀ (l : Ln) μ', WfL sh.length l → sh.length - 1 ∈ l.mem → (∀ p ∈ l.mem, p = sh.length - 1 ∨ p = 0) → ((l.word == kUntil || l.word == kSince) = false) → Src μ' → sh.length + 1 ≤ big ∧ E.nx [some (0, .ref 0), s1, some (0, .tup (sh.map Ln.toD ++ [l.toD])), s3, s4, s5, s6, s7, some (0, .int ((sh.length - 1 : Nat) : Int))] μ' := fun l μ' e1 e2 e3 e4 hs' => by
    have A := apd_of h e1 e2 e3
    refine ⟨by show _ ≤ 16777216; omega, ?_⟩
    rw [shD_snoc]
    refine hk l μ' _ (h.plain A ?_) hs'
    unfold lkA
    rw [A.word]; exact e4
  refine of_ok (xs := [(Ln.op kNot [sh.length - 1]).toD, (Ln.op kOr [sh.length - 1, 0]).toD, (Ln.op kAnd [0, sh.length - 1]).toD]) hs (by simp) (by simp) fun x hx μ' hs' => ?_
  get_elem_tactic_trivial
  simp only [List.mem_cons, List.not_mem_nil, or_false] at hx
  rcases hx with rfl | rfl | rfl
  · exact fin _ μ' ⟨.inl rfl, by simp, fun m hm => by rw [List.mem_singleton.mp hm]; omega, rfl⟩ (List.mem_singleton_self _) (fun p hp => .inl (List.mem_singleton.mp hp)) (by show (kNot == kUntil || kNot == kSince) = false; decide) hs'
  · refine fin _ μ' ⟨.inr (.inr (.inl rfl)), by simp, fun m hm => ?_, rfl⟩ List.mem_cons_self (fun p hp => by simpa [Ln.mem] using hp) (by show (kOr == kUntil || kOr == kSince) = false; decide) hs'
    simp only [List.mem_cons, List.not_mem_nil, or_false] at hm
    omega
  · refine fin _ μ' ⟨.inr (.inl rfl), by simp, fun m hm => ?_, rfl⟩ (by simp [Ln.mem]) (fun p hp => by simpa [Ln.mem, or_comm] using hp) (by show (kAnd == kUntil || kAnd == kSince) = false; decide) hs'
    simp only [List.mem_cons, List.not_mem_nil, or_false] at hm
    omega
theorem la_lap {s5 : Option (Nat × D)} (hs : Src μ) (h : Lad sh last fo) (hl : sh.length ≤ 100) (hok : okS last = true) {s1 : Option (Nat × D)}
    (hk : ∀ sh' w fo' μ' s6 s7 s8, Lad sh' w fo' → sh'.length ≤ sh.length + 3 → okS w = true → Src μ' → E.nx [some (0, .ref 0), s1, some (0, shD sh'), some (0, .str w), some (0, .int fo'), s5, s6, s7, s8] μ') :
    wpSs (callN Pg (d + 2)) Pg.gl laB E [some (0, .ref 0), s1, some (0, shD sh), some (0, .str last), some (0, .int fo), s5, none, none, none] μ := by
  have h1 := h.h1
  rw [wpSs_split 2]
  generalize hE1 : Ends.mk _ _ _ _ _ = E1
  dsimp only [laB, b__law_ladder, List.take]
  get_elem_tactic_trivial
  refine of_ok (xs := [D.str kUntil, D.str kSince]) hs (by simp) (by simp) fun x hx μ1 hs1 => ?_
  get_elem_tactic_trivial
  obtain ⟨w, rfl, hw⟩ : ∃ w, x = .str w ∧ (w = kUntil ∨ w = kSince) := by
    simp only [List.mem_cons, List.not_mem_nil, or_false] at hx
    rcases hx with rfl | rfl
    · exact ⟨kUntil, rfl, .inl rfl⟩
    · exact ⟨kSince, rfl, .inr rfl⟩
  have hwS : okS w = true := by rcases hw with rfl | rfl <;> rfl
  rw [any_two]
  refine ⟨hok, ?_, ?_⟩
  · show (okS [] && (okS w && true)) = true
    rw [hwS]; rfl
  have e1 : (fo + if (!([] == last || w == last)) = true then 1 else 0) = fo + if last = [] ∨ last = w then 0 else 1 := by
    congr 1
    by_cases c : last = [] ∨ last = w
    · rw [if_pos c]
      rcases c with c | c
      · subst c; rfl
      · subst c; rw [beq_self_eq_true, Bool.or_true]; rfl
    · rw [if_neg c]
      have c1 : ([] == last) = false := by
        rw [beq_eq_false_iff_ne]; exact fun e => c (.inl e.symm)
      have c2 : (w == last) = false := by
        rw [beq_eq_false_iff_ne]; exact fun e => c (.inr e.symm)
      rw [c1, c2]; rfl
  show E1.nx [some (0, .ref 0), s1, some (0, shD sh), some (0, .str w), some (0, .int (fo + if (!([] == last || w == last)) = true then 1 else 0)), s5, some (0, .str w), none, none] μ1
  rw [e1]
  rw [← hE1]
  show wpSs _ _ (laB.drop 2) E _ μ1
  rw [wpSs_split 1]
  generalize hE2 : Ends.mk _ _ _ _ _ = E2
  dsimp only [laB, b__law_ladder, List.take, List.drop]
  get_elem_tactic_trivial
  rw [last_int h1]
  refine mixed_ok hs1 (by simp) fun acc μ2 hp hs2 => ?_
  obtain ⟨x, y, rfl⟩ : ∃ x y, acc = [x, y] := by
    have := hp.length_eq
    match acc, this with
    | [x, y], _ => exact ⟨x, y, rfl⟩
  have each : ∀ z ∈ [x, y], ∃ m : Nat, (m = sh.length - 1 ∨ m = 0) ∧ z = .int (m : Int) := fun z hz => by
    have hz := hp.mem_iff.mp hz
    rcases List.mem_cons.mp hz with rfl | hz
    · exact ⟨_, .inl rfl, rfl⟩
    · rw [List.mem_singleton.mp hz]; exact ⟨0, .inr rfl, rfl⟩
  have hin : D.int ((sh.length - 1 : Nat) : Int) ∈ [x, y] := hp.mem_iff.mpr List.mem_cons_self
  obtain ⟨m1, h1', rfl⟩ := each x (by simp)
  obtain ⟨m2, h2', rfl⟩ := each y (by simp)
  have hin : sh.length - 1 ∈ [m1, m2] := by
    simp only [List.mem_cons, List.not_mem_nil, or_false, D.int.injEq] at hin ⊢
    omega
  have wfl : WfL sh.length (.op w [m1, m2]) := ⟨.inr (.inr (.inr hw)), by simp, fun m hm => by
    simp only [List.mem_cons, List.not_mem_nil, or_false] at hm
    omega, by rcases hw with rfl | rfl <;> rfl⟩
  have A := apd_of h wfl hin fun p hp => by
    rcases List.mem_cons.mp hp with rfl | hp
    · exact h1'
    · rw [List.mem_singleton.mp hp]; exact h2'
  have L := h.rung (w := w) A rfl hw
  get_elem_tactic_trivial
  refine ⟨by decide, by show _ ≤ 16777216; omega, ?_⟩
  rw [show D.tup (sh.map Ln.toD ++ [D.tup [.str w, .int (m1 : Int), .int (m2 : Int)]]) = shD (sh ++ [.op w [m1, m2]]) by simp [Ln.toD]]
  generalize (fo + if last = [] ∨ last = w then 0 else 1) = fo' at L
  rw [← hE2]
  have hl2 : (sh ++ [Ln.op w [m1, m2]]).length = sh.length + 1 := by simp
  generalize sh ++ [Ln.op w [m1, m2]] = sh2 at L hl2
  show wpSs _ _ (.for_ [7, 8] (.var 7) (.rng (.call "_law_pick" [false, true] [.var 0, .lit (.int 3)])) laI :: []) E [some (0, .ref 0), s1, some (0, shD sh2), some (0, .str w), some (0, .int fo'), s5, some (0, .str w), none, none] μ2
  rw [wpSs_cons, wpS_for, wpI_rng]
  get_elem_tactic_trivial
  refine pick_ok hs2 (by decide) fun q μ3 hs3 q0 q1 => ?_
  get_elem_tactic_trivial
  refine ⟨by omega, by omega, ?_⟩
  refine for_ok (fun pre tl env ν => Src ν ∧ ∃ (sh3 : List Ln), Lad sh3 w fo' ∧ sh3.length + tl.length ≤ sh.length + 3 ∧ env = [some (0, .ref 0), s1, some (0, shD sh3), some (0, .str w), some (0, .int fo'), s5, some (0, .str w), none, none]) ⟨hs3, sh2, L, by simp [rangeL]; omega, rfl⟩ ?_ ?_
  · rintro pre x tl env ν K' ⟨hs, sh3, L3, hl3, rfl⟩ hk'
    rw [List.length_cons] at hl3
    refine la_in (C2 := 0) hs L3 (by omega) fun l μ' s8 L4 hs' => ?_
    exact hk' _ _ ⟨hs', sh3 ++ [l], L4, by rw [List.length_append, List.length_singleton]; omega, rfl⟩
  · rintro pre env ν ⟨hs, sh3, L3, hl3, rfl⟩
    exact hk sh3 w fo' ν _ _ _ L3 (by simpa using hl3) hwS hs
theorem ladder_ok {many : Nat} (hs : Src μ) (hm : many ≤ 15) (post : ∀ sh w fo μ', Lad sh w fo → sh.length ≤ 46 → Src μ' → Q 0 (.tup [shD sh, .int fo]) μ') : callN Pg (d + 3) "_law_ladder" [.ref 0, .int (many : Int)] μ Q X := by
  rw [callN_succ]
  refine ⟨d__law_ladder, rfl, rfl, ?_⟩
  show wpSs _ _ b__law_ladder _ [some (0, .ref 0), some (2, .int (many : Int)), none, none, none, none, none, none, none] _
  rw [wpSs_split 1]
  generalize hE : Ends.mk _ _ _ _ _ = E1
  dsimp only [b__law_ladder, List.take]
  get_elem_tactic_trivial
  rw [← hE]
  show wpSs _ _ (.for_ [5, 6, 7, 8] (.var 5) (.rng (.var 1)) laB :: b__law_ladder.drop 2) _ [some (0, .ref 0), some (2, .int (many : Int)), some (0, shD [.letter [97]]), some (0, .str []), some (0, .int 0), none, none, none, none] μ
  rw [wpSs_cons, wpS_for, wpI_rng]
  get_elem_tactic_trivial
  refine ⟨by omega, by omega, ?_⟩
  refine for_ok (fun pre tl env ν => Src ν ∧ ∃ (sh : List Ln) (w : List Nat) (fo : Int), Lad sh w fo ∧ sh.length + 3 * tl.length ≤ 46 ∧ okS w = true ∧ env = [some (0, .ref 0), some (2, .int (many : Int)), some (0, shD sh), some (0, .str w), some (0, .int fo), none, none, none, none]) ⟨hs, [.letter [97]], [], 0, Lad.start, by simp [rangeL]; omega, rfl, rfl⟩ ?_ ?_
  · rintro pre x tl env ν K' ⟨hs, sh, w, fo, L, hl, hw, rfl⟩ hk
    rw [List.length_cons] at hl
    show wpSs (callN Pg (d + 2)) Pg.gl laB _ [some (0, .ref 0), some (2, .int (many : Int)), some (0, shD sh), some (0, .str w), some (0, .int fo), some (0, x), none, none, none] ν
    refine la_lap hs L (by omega) hw fun sh' w' fo' μ' s6 s7 s8 L' hl' hw' hs' => ?_
    exact hk _ _ ⟨hs', sh', w', fo', L', by omega, hw', rfl⟩
  · rintro pre env ν ⟨hs, sh, w, fo, L, hl, hw, rfl⟩
    dsimp only [b__law_ladder, List.drop]
    get_elem_tactic_trivial
    exact post sh w fo ν L (by simpa using hl) hs
theorem tall_ok {some' : List (List Nat)} (hs : Src μ) (hw : ∀ w ∈ some', w = kAnd ∨ w = kOr ∨ w = kUntil ∨ w = kSince) (hne : some' ≠ []) (hl : some'.length < 1000) (post : ∀ sh μ', Wf sh → sh.length = 60 → Src μ' → Q 0 (shD sh) μ') : callN Pg (d + 3) "_law_tall" [.ref 0, lS some'] μ Q X := by
  rw [callN_succ]
  refine ⟨d__law_tall, rfl, rfl, ?_⟩
  show wpSs _ _ b__law_tall _ [some (0, .ref 0), some (2, lS some'), none, none, none] _
  rw [wpSs_split 1]
  generalize hE : Ends.mk _ _ _ _ _ = E1
  dsimp only [b__law_tall, List.take]
  get_elem_tactic_trivial
  rw [← hE]
  show wpSs _ _ (.for_ [3, 4] (.var 3) (.rng (.lit (.int 59))) taB :: b__law_tall.drop 2) _ [some (0, .ref 0), some (2, lS some'), some (0, shD [.letter [97]]), none, none] μ
  rw [wpSs_cons, wpS_for, wpI_rng]
  get_elem_tactic_trivial
  refine ⟨by decide, by decide, ?_⟩
  show forLoop _ (rangeL 0 59) _ _ _
  refine for_ok (fun pre tl env ν => Src ν ∧ ∃ (sh : List Ln) (n : Nat), n ≤ 59 ∧ tl = (rangeL 0 59).drop n ∧ Wf sh ∧ sh.length = n + 1 ∧ env = [some (0, .ref 0), some (2, lS some'), some (0, shD sh), none, none]) ⟨hs, [.letter [97]], 0, by decide, rfl, Lad.start.wf, rfl, rfl⟩ ?_ ?_
  · rintro pre x tl env ν K' ⟨hs, sh, n, hn, htl, wf, hlen, rfl⟩ hk
    obtain ⟨hn2, rfl, rfl⟩ := range_step htl
    dsimp only [taB, b__law_tall]
    get_elem_tactic_trivial
    refine of_ok hs (by simpa using hne) (by rw [List.length_map]; omega) fun x hx μ' hs' => ?_
    obtain ⟨w, hw', rfl⟩ := List.mem_map.mp hx
    have hw := hw w hw'
    have wne : (w == kNot) = false := by rcases hw with rfl | rfl | rfl | rfl <;> decide
    have hwS : okS w = true := by rcases hw with rfl | rfl | rfl | rfl <;> rfl
    get_elem_tactic_trivial
    refine ⟨hwS, by decide, ?_⟩
    rw [show (w == [110, 111, 116]) = false from wne]
    get_elem_tactic_trivial
    refine ⟨by show _ ≤ 16777216; omega, ?_⟩
    rw [show D.tup (sh.map Ln.toD ++ [D.tup [.str w, .int (n : Int), .int (n : Int)]]) = shD (sh ++ [.op w [n, n]]) by simp [Ln.toD]]
    refine hk _ _ ⟨hs', sh ++ [.op w [n, n]], n + 1, hn2, rfl, wf.snoc (l := .op w [n, n]) ⟨.inr ?_, by simp, fun m hm => ?_, ?_⟩, by simp; omega, rfl⟩
    · rcases hw with rfl | rfl | rfl | rfl <;> decide
    · simp only [List.mem_cons, List.not_mem_nil, or_false] at hm
      omega
    · rcases hw with rfl | rfl | rfl | rfl <;> rfl
  · rintro pre env ν ⟨hs, sh, n, hn, htl, wf, hlen, rfl⟩
    have hn' : n = 59 := by
      have := congrArg List.length htl
      simp [rangeL] at this
      omega
    dsimp only [b__law_tall, List.drop]
    get_elem_tactic_trivial
    exact post sh ν wf (by omega) hs
end
end Law

set_option autoImplicit false
set_option linter.all false
set_option maxRecDepth 10000
set_option maxHeartbeats 1000000
namespace Law
open Pv
local macro_rules | `(tactic| get_elem_tactic_trivial) => `(tactic| simp (maxSteps := 2000000) only [wpE_lit, wpE_var, wpE_glob, wpE_tup, wpE_lst, wpE_dnew, wpE_dict, wpE_lrange, wpE_lrange2, wpE_denum2, wpE_sset, wpE_ssetS, wpE_state, wpE_neg, wpE_bin, wpE_cmp, wpE_chain, wpE_and, wpE_or, wpE_not, wpE_ite, wpE_idx, wpE_slice, wpE_rev, wpE_stepS, wpE_call, wpE_blt, wpE_dget, wpE_dget2, wpE_mut, wpE_mutF, wpE_comp, wpE_dict1, wpE_dcomp, wpE_dvals, wpE_indexOf, wpE_tupS, wpE_lstS, wpE_isInst, wpE_gget, wpE_gget2, wpE_gidx, wpE_gmem, wpE_gcd, wpLS_nil, wpLS_star, wpLS_one, wpI_rngD, wpI_rngL, wpI_zip, wpI_items, wpI_keys, bin_bor, bin_band, bin_shl, bin_shr, blt_sum, blt_all, blt_any, blt_maxL, blt_minL, blt_minP, blt_sortP,
  wpL_nil, wpL_cons, wpF_nil, wpF_cons, wpA_nil, wpA_lent, wpA_fz, wpB_one, wpB_cons, wpO_none, wpO_some, wpC_nil, wpC_cons, wpI_seq, wpI_rng, wpI_rng2, wpI_enum, wpP_nil, wpP_cons, wpSs_nil, wpSs_cons, wpS_expr, wpS_assign, wpS_par, wpS_setIdx, wpS_aug, wpS_retN, wpS_ret, wpS_ite, wpS_for, wpS_while, wpS_brk, wpS_cont, wpS_pass,
  giveT_var, giveT_tup, giveL_nil, giveL_cons, give_fz, give_fresh, give_bor, esc_fz, esc_fresh, esc_bor, escI_fz, escI_fresh, escI_bor, kept_fz, kept_fresh, kept_bor, retK_fz, retK_fresh, retK_bor,
  List.getElem?_cons_zero, List.getElem?_cons_succ, List.getElem?_nil, List.set_cons_zero, List.set_cons_succ, List.foldl_cons, List.foldl_nil, List.zip_cons_cons, List.zip_nil_left, List.zip_nil_right, List.zipWith_cons_cons, List.zipWith_nil_left, List.zipWith_nil_right, List.length_cons, List.length_nil, List.replicate, List.cons_append, List.nil_append, List.set_nil, wipeE, back, back,
  Option.some.injEq, Prod.mk.injEq, exists_and_left, exists_eq_left', exists_eq_right', exists_eq', and_true, true_and, and_assoc, if_true, if_false, ↓reduceIte, reduceCtorEq, false_and, and_false, exists_false, or_false, false_or, D.int.injEq, D.str.injEq, D.tup.injEq, D.lst.injEq, D.dic.injEq, D.ref.injEq, D.bl.injEq, List.cons.injEq,
  getF, setF, List.find?_cons, List.find?_nil, Option.map_some, Option.map_none, tru_bl, tru_int, tru_non, tru_tup, tru_lst, tru_str, bin_add_int, bin_sub_int, bin_mul_int, bin_fdiv_int, bin_mod_int, bin_pow_int, bin_add_str, bin_add_lst, bin_add_tup, bin_mul_lst, bin_mul_tup, cmp_lt_int, cmp_le_int, cmp_gt_int, cmp_ge_int, cmp_lt_str, cmp_le_str, cmp_gt_str, cmp_ge_str, cmp_eq_rep, cmp_ne_rep, cmp_eq_int, cmp_eq_str, cmp_eq_tup, cmp_eq_lst, cmp_eq_bl, cmp_ne_int, cmp_ne_str, cmp_ne_tup, cmp_ne_lst, cmp_ne_bl, cmp_mem, cmp_notMem, mem_tup, mem_lst, mem_dic, idx_tup, idx_lst, idx_str, idx_dic_int, idx_dic_str, idx_ref, isKey_int, isKey_str, blt_len_tup, blt_len_lst, blt_len_dic, blt_len_str, blt_abs, blt_int, blt_int_bl, blt_max, blt_min, blt_list_lst, blt_list_tup, blt_tuple_lst, blt_tuple_tup, blt_repr, blt_sorted, kind_int, kind_str, kind_bl, kind_tup, kind_rep, kind_non, kind_lst, kind_dic, optI_none, optI_some, slice_tup, slice_lst, slice_str, rev_lst, rev_tup, items_tup, items_lst, mut_append, mut_pop, mut_popAt, mut_extend, set_lst, set_dic, Nat.reduceSub, Nat.reduceAdd, nil_beq, eq_self, Nat.reduceBEq, List.cons_beq_cons, List.isEmpty_cons, List.isEmpty_nil, Bool.and_true, Bool.and_false, Bool.true_and, Bool.false_and, Bool.not_true, Bool.not_false, Bool.false_eq_true, List.map_cons, List.map_nil, decide_eq_true_eq, Nat.reduceEqDiff, atI_c0, atI_c1, atI_c2, atI_c3, cut_c1, List.length_map, Int.toNat_natCast, and_self, List.map_append])
abbrev E0 : Ends := { nx := fun _ _ => False, rt := fun _ d _ => d = .bl true, bk := fun _ _ => False, ct := fun _ _ => False, xc := fun _ _ _ => False }
def lpA : List S := match b_law with | _ :: .for_ _ _ _ b :: _ => b | _ => []
def lpB : List S := match b_law with | _ :: _ :: .for_ _ _ _ b :: _ => b | _ => []
def lpC : List S := match b_law with | _ :: _ :: _ :: .for_ _ _ _ b :: _ => b | _ => []
section
variable {d : Nat} {μ : Store} {E : Ends} {sh : List Ln} {n : Nat} {ns : List Int}
abbrev eL (ns : List Int) (s2 s3 s4 s5 : Option (Nat × D)) : Env := [some (2, lI ns), some (0, .ref 0), s2, s3, s4, s5, none]
theorem rsz_is {l : List Int} (h : ∀ x ∈ l, x.natAbs < 10 ^ 50) (hl : l.length ≤ 1000) : rsz (.lst (l.map D.int)) 60 ≤ 16777216 := by
  have k : ∀ l : List Int, (∀ x ∈ l, x.natAbs < 10 ^ 50) → rszL (l.map D.int) 59 ≤ 54 * l.length := by
    intro l
    induction l with
    | nil => intro _; exact Nat.le_refl _
    | cons x r ih =>
      intro h
      have h1 := ih fun y hy => h y (List.mem_cons_of_mem _ hy)
      show (if x.natAbs < 10 ^ 50 then 52 else 100000000) + 2 + rszL (r.map D.int) 59 ≤ _
      rw [if_pos (h x List.mem_cons_self), List.length_cons]; omega
  have := k l h
  show rszL (l.map D.int) 59 + 3 ≤ _
  omega
theorem TR_small (wf : Wf sh) (h : sh.length ≤ 100) : (TR sh (sh.length - 1)).natAbs < 10 ^ 50 := by
  have h1 := TR_le wf (k := sh.length - 1)
  have h2 : 0 ≤ TR sh (sh.length - 1) := TR_pos
  omega
theorem lapA {μ' : Store} (hs : Src μ) (hn : n < 5) (hk : ∀ s3 s4 s5 μ', Src μ' → E.nx (eL ns (some (0, .int (n : Int))) s3 s4 s5) μ') : wpSs (callN Pg 60) Pg.gl lpA E (eL ns (some (0, .int (n : Int))) none none none) μ := by
  obtain ⟨q, hq, q1, q2⟩ : ∃ q : Int, atI [D.int 1, D.int 4, D.int 8, D.int 14, D.int 28] (n : Int) = some (.int q) ∧ 1 ≤ q ∧ q ≤ 28 := by
    have : n = 0 ∨ n = 1 ∨ n = 2 ∨ n = 3 ∨ n = 4 := by omega
    rcases this with rfl | rfl | rfl | rfl | rfl
    · exact ⟨1, rfl, by decide, by decide⟩
    · exact ⟨4, rfl, by decide, by decide⟩
    · exact ⟨8, rfl, by decide, by decide⟩
    · exact ⟨14, rfl, by decide, by decide⟩
    · exact ⟨28, rfl, by decide, by decide⟩
  rw [wpSs_split 1]
  generalize hE1 : Ends.mk _ _ _ _ _ = E1
  dsimp only [lpA, b_law, List.take]
  get_elem_tactic_trivial
  refine words13_ok (many := 2) hs (by decide) fun ws μ1 hw hne h13 h2 hs1 => ?_
  get_elem_tactic_trivial
  refine ⟨_, hq, ?_⟩
  refine some_ok hs1 hne (by omega) hw q1 q2 fun sh μ2 wf l1 l2 hs2 => ?_
  get_elem_tactic_trivial
  rw [← hE1]
  show wpSs _ _ (lpA.drop 1) E _ μ2
  have hm1 : (mir sh).length = sh.length := List.length_map ..
  have hd1 : (den sh).length = sh.length + 1 := by simp
  have tm := mir_TR wf l1
  have td := den_TR wf l1
  have small := TR_small wf (by omega)
  rw [wpSs_split 1]
  generalize hE2 : Ends.mk _ _ _ _ _ = E2
  dsimp only [lpA, b_law, List.take, List.drop]
  get_elem_tactic_trivial
  refine lturns_ok wf l1 (by omega) ?_
  get_elem_tactic_trivial
  refine lmirrored_ok wf (by omega) ?_
  get_elem_tactic_trivial
  refine ldenied_ok wf l1 (by omega) ?_
  get_elem_tactic_trivial
  refine ltidy_ok wf l1 (by omega) fun f wff f1 f2 tf => ?_
  get_elem_tactic_trivial
  rw [← hE2]
  show wpSs _ _ (lpA.drop 2) E _ μ2
  dsimp only [lpA, b_law, List.drop]
  get_elem_tactic_trivial
  refine ⟨rfl, ?_⟩
  generalize hdue : TR sh (sh.length - 1) = due at *
  refine comp_map [sh, mir sh, den sh, f] shD (fun _ => .int due) (fun s hs' K2 hK => ?_) (by show 4 ≤ 16777216; decide) ?_
  · get_elem_tactic_trivial
    have fin : ∀ s : List Ln, Wf s → 1 ≤ s.length → s.length < 10000 → TR s (s.length - 1) = due → callN Pg 60 "turns" [shD s] μ2 (fun l d μ' => esc (if l = 0 then Kd.fz else Kd.fresh) [some (2, lI ns), some (0, D.ref 0), some (0, D.int ↑n), some (0, shD sh), some (0, D.int due), some (0, D.lst [shD sh, shD (mir sh), shD (den sh), shD f]), some (0, shD s)] fun env5 => K2 (some d) (List.set env5 6 none) μ') fun x μ' => False := fun s w1 w2 w3 w4 => by
      refine turns_ok w1 w2 w3 ?_
      rw [w4]
      get_elem_tactic_trivial
      exact hK
    simp only [List.mem_cons, List.not_mem_nil, or_false] at hs'
    rcases hs' with rfl | rfl | rfl | rfl
    · exact fin _ wf l1 (by omega) hdue
    · exact fin _ (mir_wf wf) (by omega) (by omega) tm
    · exact fin _ (den_wf wf l1) (by omega) (by omega) td
    · exact fin _ wff f1 (by omega) tf
  · have hz : rsz (.lst ([due, due, due, due].map D.int)) 60 ≤ 16777216 := rsz_is (fun x hx => by
      simp only [List.mem_cons, List.not_mem_nil, or_false] at hx
      rcases hx with rfl | rfl | rfl | rfl <;> exact small) (by show 4 ≤ 1000; decide)
    get_elem_tactic_trivial
    refine ⟨hz, by decide, by decide, by decide, hz, rfl, ?_⟩
    exact hk _ _ _ _ hs2
theorem leaf_TR (wf : Wf sh) {s : List Nat} (hs : okS s = true) : Wf (sh ++ [.letter s]) ∧ TR (sh ++ [.letter s]) ((sh ++ [Ln.letter s]).length - 1) = 0 := by
  have wf' : Wf (sh ++ [.letter s]) := wf.snoc (l := .letter s) hs
  have e : (sh ++ [Ln.letter s])[sh.length]? = some (.letter s) := by rw [List.getElem?_append_right (Nat.le_refl _), Nat.sub_self]; rfl
  have el : (sh ++ [Ln.letter s]).length - 1 = sh.length := by rw [List.length_append, List.length_singleton, Nat.add_sub_cancel]
  refine ⟨wf', ?_⟩
  rw [el]
  have hl : lkA (sh ++ [.letter s]) sh.length = false := by
    unfold lkA
    rw [word_at e]
    show (kLetter == kUntil || kLetter == kSince) = false
    decide
  rcases (TR_step wf' hl).2 with h | ⟨p, hp, _⟩
  · exact h
  · rw [mem_at e] at hp; cases hp
theorem lapB (hs : Src μ) (hn : n < 4) (hk : ∀ s3 s4 μ', Src μ' → E.nx (eL ns (some (0, .int (n : Int))) s3 s4 none) μ') : wpSs (callN Pg 60) Pg.gl lpB E (eL ns (some (0, .int (n : Int))) none none none) μ := by
  obtain ⟨q, hq, q2⟩ : ∃ q : Nat, atI [D.int 2, D.int 5, D.int 9, D.int 15] (n : Int) = some (.int (q : Int)) ∧ q ≤ 15 := by
    have : n = 0 ∨ n = 1 ∨ n = 2 ∨ n = 3 := by omega
    rcases this with rfl | rfl | rfl | rfl
    · exact ⟨2, rfl, by decide⟩
    · exact ⟨5, rfl, by decide⟩
    · exact ⟨9, rfl, by decide⟩
    · exact ⟨15, rfl, by decide⟩
  dsimp only [lpB, b_law]
  get_elem_tactic_trivial
  refine ⟨_, hq, ?_⟩
  refine ladder_ok hs q2 fun sh w fo μ1 L l1 hs1 => ?_
  have hfo : fo.natAbs < 10 ^ 50 := by rw [← L.TR]; exact TR_small L.wf (by omega)
  obtain ⟨wf2, t2⟩ := leaf_TR (s := [98]) L.wf rfl
  have hz : rsz (.lst ([fo, 0].map D.int)) 60 ≤ 16777216 := rsz_is (fun x hx => by
    simp only [List.mem_cons, List.not_mem_nil, or_false] at hx
    rcases hx with rfl | rfl
    · exact hfo
    · decide) (by show 2 ≤ 1000; decide)
  get_elem_tactic_trivial
  refine turns_ok L.wf L.h1 (by omega) ?_
  rw [L.TR]
  get_elem_tactic_trivial
  refine ⟨by show _ ≤ 16777216; omega, ?_⟩
  rw [show D.tup (sh.map Ln.toD ++ [D.tup [.str [108, 101, 116, 116, 101, 114], .str [98]]]) = shD (sh ++ [.letter [98]]) by simp [Ln.toD]]
  refine turns_ok wf2 (by simp) (by simp; omega) ?_
  rw [t2]
  get_elem_tactic_trivial
  exact ⟨hz, hz, hk _ _ _ hs1⟩
theorem lapC {some' : List (List Nat)} (hs : Src μ) (hw : ∀ w ∈ some', w = kAnd ∨ w = kOr ∨ w = kUntil ∨ w = kSince) (hne : some' ≠ []) (hl : some'.length < 1000) (hk : ∀ s3 s5 μ', Src μ' → E.nx (eL ns none s3 none s5) μ') : wpSs (callN Pg 60) Pg.gl lpC E (eL ns none none none (some (0, lS some'))) μ := by
  show wpSs _ _ lpC _ [some (2, lI ns), some (0, .ref 0), none, none, none, some (0, lS some'), none] _
  dsimp only [lpC, b_law]
  get_elem_tactic_trivial
  refine tall_ok hs hw hne hl fun sh μ1 wf l1 hs1 => ?_
  have small := TR_small wf (by omega)
  have hz : rsz (.int (TR sh (sh.length - 1))) 60 ≤ 16777216 := by
    show (if (TR sh (sh.length - 1)).natAbs < 10 ^ 50 then 52 else 100000000) ≤ _
    rw [if_pos small]; decide
  get_elem_tactic_trivial
  refine turns_ok wf (by omega) (by omega) ?_
  refine ⟨hz, ?_⟩
  refine lturns_ok wf (by omega) (by omega) ?_
  exact ⟨hz, rfl, hk _ _ _ hs1⟩
def sh6 : List Ln := [.letter [97], .letter [98], .yes, .op kUntil [1, 2], .op kAnd [0, 3], .op kSince [4, 2]]
theorem sh6_wf : Wf sh6 := fun i l h => by
  match i, h with
  | 0, h => cases h; rfl
  | 1, h => cases h; rfl
  | 2, h => cases h; trivial
  | 3, h => cases h; exact ⟨by decide, by decide, by decide, rfl⟩
  | 4, h => cases h; exact ⟨by decide, by decide, by decide, rfl⟩
  | 5, h => cases h; exact ⟨by decide, by decide, by decide, rfl⟩
  | i + 6, h => cases h
theorem Wf.take {sh : List Ln} {n : Nat} (wf : Wf sh) : Wf (sh.take n) := fun i l h => by
  rw [List.getElem?_take] at h
  split at h
  · exact wf i l h
  · cases h
theorem law_end (hs : Src μ) : wpSs (callN Pg 60) Pg.gl (b_law.drop 4) E0 (eL ns none none none none) μ := by
  dsimp only [b_law, List.drop]
  get_elem_tactic_trivial
  show callN Pg 60 "turns" [shD sh6] μ _ _
  refine turns_ok sh6_wf (by decide) (by decide) ?_
  rw [show TR sh6 (sh6.length - 1) = 1 by decide +kernel]
  get_elem_tactic_trivial
  show callN Pg 60 "turns" [shD (sh6.take 4)] μ _ _
  refine turns_ok sh6_wf.take (by decide) (by decide) ?_
  rw [show TR (sh6.take 4) ((sh6.take 4).length - 1) = 0 by decide +kernel]
  get_elem_tactic_trivial
  show callN Pg 60 "turns" [shD (sh6.take 1)] μ _ _
  refine turns_ok sh6_wf.take (by decide) (by decide) ?_
  rw [show TR (sh6.take 1) ((sh6.take 1).length - 1) = 0 by decide +kernel]
  get_elem_tactic_trivial
  exact ⟨by decide, by decide, rfl⟩
theorem law_ok (ns : List Int) (hn : ns.length ≤ 63) : okW (callN Pg 60) Pg.gl d_law ns := by
  show wpSs _ _ b_law E0 [some (2, lI ns), none, none, none, none, none, none] []
  rw [wpSs_split 1]
  generalize hE1 : Ends.mk _ _ _ _ _ = E1
  dsimp only [b_law, List.take]
  get_elem_tactic_trivial
  refine source_ok (fun μ hs => ?_) hn
  rw [← hE1]
  show wpSs _ _ (.for_ [2, 3, 4, 5] (.var 2) (.rng (.lit (.int 5))) lpA :: b_law.drop 2) E0 (eL ns none none none none) μ
  rw [wpSs_cons, wpS_for, wpI_rng, wpE_lit]
  refine ⟨_, rfl, by decide, ?_⟩
  show forLoop _ (rangeL 0 5) _ _ _
  refine for_ok (fun pre tl env ν => (env = eL ns none none none none ∧ Src ν) ∧ ∃ n, n ≤ 5 ∧ tl = (rangeL 0 5).drop n) ⟨⟨rfl, hs⟩, 0, by decide, rfl⟩ ?_ ?_
  · rintro pre x tl env ν K' ⟨⟨rfl, hs⟩, n, hn5, htl⟩ hk
    obtain ⟨hn2, rfl, rfl⟩ := range_step htl
    rw [giveT_var, give_fz]
    show wpSs _ _ lpA _ (eL ns (some (0, .int (n : Int))) none none none) ν
    exact lapA (μ' := ν) hs hn2 fun s3 s4 s5 μ' hs' => hk _ _ ⟨⟨rfl, hs'⟩, n + 1, hn2, rfl⟩
  · rintro pre env ν ⟨⟨rfl, hs⟩, _⟩
    show wpSs _ _ (.for_ [2, 3, 4] (.var 2) (.rng (.lit (.int 4))) lpB :: b_law.drop 3) E0 (eL ns none none none none) ν
    rw [wpSs_cons, wpS_for, wpI_rng, wpE_lit]
    refine ⟨_, rfl, by decide, ?_⟩
    show forLoop _ (rangeL 0 4) _ _ _
    refine for_ok (fun pre tl env ν => (env = eL ns none none none none ∧ Src ν) ∧ ∃ n, n ≤ 4 ∧ tl = (rangeL 0 4).drop n) ⟨⟨rfl, hs⟩, 0, by decide, rfl⟩ ?_ ?_
    · rintro pre x tl env ν K' ⟨⟨rfl, hs⟩, n, hn5, htl⟩ hk
      obtain ⟨hn2, rfl, rfl⟩ := range_step htl
      rw [giveT_var, give_fz]
      show wpSs _ _ lpB _ (eL ns (some (0, .int (n : Int))) none none none) ν
      exact lapB hs hn2 fun s3 s4 μ' hs' => hk _ _ ⟨⟨rfl, hs'⟩, n + 1, hn2, rfl⟩
    · rintro pre env ν ⟨⟨rfl, hs⟩, _⟩
      show wpSs _ _ (.for_ [3, 5] (.var 5) (.seq (.lst [.lst [.lit (.str [97, 110, 100]), .lit (.str [111, 114])], .lst [.lit (.str [97, 110, 100]), .lit (.str [111, 114]), .lit (.str [117, 110, 116, 105, 108]), .lit (.str [115, 105, 110, 99, 101])]])) lpC :: b_law.drop 4) E0 (eL ns none none none none) ν
      rw [wpSs_cons, wpS_for, wpI_seq]
      get_elem_tactic_trivial
      refine for_ok (fun pre tl env ν => Src ν ∧ env = eL ns none none none none ∧ ∀ x ∈ tl, ∃ l : List (List Nat), x = lS l ∧ (∀ w ∈ l, w = kAnd ∨ w = kOr ∨ w = kUntil ∨ w = kSince) ∧ l ≠ [] ∧ l.length < 1000) ⟨hs, rfl, fun x hx => ?_⟩ ?_ ?_
      · simp only [List.mem_cons, List.not_mem_nil, or_false] at hx
        rcases hx with rfl | rfl
        · exact ⟨[kAnd, kOr], rfl, by decide, by decide, by decide⟩
        · exact ⟨[kAnd, kOr, kUntil, kSince], rfl, by decide, by decide, by decide⟩
      · rintro pre x tl env ν K' ⟨hs, rfl, hx⟩ hk
        obtain ⟨l, rfl, h1, h2, h3⟩ := hx x List.mem_cons_self
        show wpSs (callN Pg 60) Pg.gl lpC _ (eL ns none none none (some (0, lS l))) ν
        exact lapC hs h1 h2 h3 fun s3 s5 μ' hs' => hk _ _ ⟨hs', rfl, fun y hy => hx y (List.mem_cons_of_mem _ hy)⟩
      · rintro pre env ν ⟨hs, rfl, _⟩
        exact law_end hs
end
end Law

theorem PySem.Challenge.cw_splitsays_k28_turns_holds : PySem.Challenge.rw_splitsays_k28_turns.Holds :=
  Law.holds Law.law_ok
