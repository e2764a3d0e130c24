import PyProof.Rows.All
import HandS.ForMost
import HandS.ForExc
import HandS.Conv
import HandS.TupAny
import HandS.Flow
import HandS.Deep
import HandS.Codes
import HandS.CallLocal
import HandS.TupMul
import HandS.TupLe
import HandS.Style
import HandS.IsInst
import HandS.SortInts
import KE.DataMinMax
import HandS.WideBits
import HandS.Gcd
import HandS.CallSlots
import HandS.Comp
import KE.GoesEnum
import HandS.Iter
import KE.KMathGC
import KE.SortData
import HandS.Strs
import HandS.SetFor
import KE.KMathG
import HandS.Small
import HandS.Words
import HandS.WordsExc
import HandS.Defaults
import HandS.HeadEnd
import HandS.HeadHook4
import Wide.All
import OpenK.AllK
import Wide.FinOn
import KE.KStateDown
import HandS.Head0
import HandS.Head1
import HandS.Head2
import HandS.Head3
import PySem.Challenge.RW_inkdisk_k00_cells_that_stay_inked
section
/-! the plain evaluator: values, expressions, statements (core Lean alone) -/
namespace Py
/-- data -/
inductive D where
  | none | bl (b : Bool) | int (i : Int) | str (s : List Nat) | fn (j : Nat) | loc (l : Nat)
  | tup (l : List D) | lst (l : List D) | dct (ks vs : List D) | ro (l : List D)
instance : Inhabited D := ⟨.none⟩
structure Cell where
  fz : Bool
  d : D
abbrev Store := List Cell
abbrev Env := List (Option D)
inductive Out (α : Type) where
  | ok (a : α) (st : Store) | exc (e : D) (st : Store) | stuck
def Out.noexc {α : Type} : Out α → Out α
  | .exc _ _ => .stuck
  | o => o
@[inline] def Out.bind {α β : Type} (x : Out α) (f : α → Store → Out β) : Out β :=
  match x with
  | .ok a st => f a st
  | .exc e st => .exc e st
  | .stuck => .stuck
inductive BOp where | add | sub | mul | fdiv | mod | pow | shl | shr | band | bor | bxor
inductive COp where | eq | ne | lt | le | gt | ge | is | isnot | isin | notin
/-- the built-in functions and methods that give a value -/
inductive Prim where
  | len | tuple | list | sum | any | all | min1 | max1 | min2 | max2 | maxd | mind | sorted | sortedRev | sortedSet | lenSet | abs | int | bool | str
  | isint | isbool | isstr | istuple | islist | isseq | isintstr | repr | range1 | range2 | range3 | factorial | comb | perms | combs | bitlen | index | get1 | get2 | setdef | values | keys | items | count | join | split | endswith | rev | enum | zip | frozen | lrange1 | lrange2 | trange1 | trange2
  deriving DecidableEq
inductive Ex where
  | nil | cons (a as : Ex)
  | var (i : Nat) | cst (d : D)
  | bin (op : BOp) (a b : Ex) | neg (a : Ex) | cmp (op : COp) (a b : Ex) | chain (op op' : COp) (a b c : Ex)
  | and (a b : Ex) | or (a b : Ex) | not (a : Ex) | ite (c a b : Ex)
  | tup (as : Ex) | lst (as : Ex) | ix (a b : Ex) | slc (a lo hi : Ex) | slcR (a : Ex)
  | call (j : Nat) (as : Ex) | calv (i n : Nat) (as : Ex) | prim (p : Prim) (as : Ex) | meth (p : Prim) (o as : Ex)
  | comp (elt : Ex) (own : List Nat) (tg : Ex) (src : Ex) (c : Ex)
  | comp2 (elt : Ex) (own : List Nat) (tg : Ex) (src : Ex) (tg2 : Ex) (src2 : Ex)
  | dcomp (k v : Ex) (own : List Nat) (tg : Ex) (src : Ex) (c : Ex)
  | dict (ks vs : Ex)
  | enumE (a : Ex)
inductive Sm where
  | nil | seq (s r : Sm)
  | set (tg e : Ex) | new (i : Nat) (e : Ex) | setIx (c ix e : Ex) | par (i : Nat) (ni : Bool) (j : Nat) (nj : Bool) (a b : Ex)
  | aug (i : Nat) (op : BOp) (e : Ex) | augIx (c ix : Ex) (op : BOp) (e : Ex)
  | app (c e : Ex) | ext (c e : Ex) | popTo (i : Nat) (c : Ex) | popTg (tg c : Ex) | expr (e : Ex)
  | ret (e : Ex) | retN | ite (c : Ex) (a b : Sm) | for (tg src : Ex) (b : Sm) | whil (c : Ex) (b : Sm)
  | brk | cont | pass
  | bad | rais (cls : Nat) (e : Ex) | tryc (b : Sm) (cls : Nat) (i : Nat) (h : Sm)
structure Fn where
  keep : Bool
  ps : Nat
  sl : Nat
  body : Sm

/-! ### on data -/
def resolve (st : Store) : D → D
  | .loc l => match st[l]? with | some c => c.d | _ => .none
  | d => d
def isLoc : D → Bool
  | .loc _ => true
  | _ => false
def esc (st : Store) : D → Out D
  | .loc l => match st[l]? with
    | some c => match isLoc c.d with
      | true => .stuck
      | false => .ok c.d (st.set l ⟨true, c.d⟩)
    | _ => .stuck
  | d => .ok d st
def opt {α : Type} (st : Store) : Option α → Out α
  | some a => .ok a st
  | _ => .stuck
/-- .. no cell -/
def gl : Option D → Option D
  | some (.loc _) => .none
  | o => o
def opg (st : Store) (o : Option D) : Out D := opt st (gl o)
def sizeMax : Nat := 16777216
def eqDeep : Nat := 40
def ieq : Int → Int → Bool
  | .ofNat a, .ofNat b => Nat.beq a b
  | .negSucc a, .negSucc b => Nat.beq a b
  | _, _ => false
def ilt : Int → Int → Bool
  | .ofNat a, .ofNat b => Nat.blt a b
  | .negSucc _, .ofNat _ => true
  | .ofNat _, .negSucc _ => false
  | .negSucc a, .negSucc b => Nat.blt b a
def ile : Int → Int → Bool
  | .ofNat a, .ofNat b => Nat.ble a b
  | .negSucc _, .ofNat _ => true
  | .ofNat _, .negSucc _ => false
  | .negSucc a, .negSucc b => Nat.ble b a
def seq : List Nat → List Nat → Bool
  | [], [] => true
  | a :: r, b :: q => Nat.beq a b && seq r q
  | _, _ => false
/-- data that == compares: at most n deep -/
def okD : Nat → D → Bool
  | _, .none => true
  | _, .bl _ => true
  | _, .int _ => true
  | _, .str s => s.all fun c => Nat.blt c 55296
  | n + 1, .tup l => l.all (okD n)
  | n + 1, .lst l => l.all (okD n)
  | _, _ => false
def eqL (f : D → D → Bool) : List D → List D → Bool
  | [], [] => true
  | x :: xs, y :: ys => f x y && eqL f xs ys
  | _, _ => false
def eqB : Nat → D → D → Bool
  | _, .none, .none => true
  | _, .bl a, .bl b => a == b
  | _, .int a, .int b => ieq a b
  | _, .str a, .str b => seq a b
  | _, .int a, .bl b => ieq a (if b then 1 else 0)
  | _, .bl a, .int b => ieq (if a then 1 else 0) b
  | n + 1, .tup a, .tup b => eqL (eqB n) a b
  | n + 1, .lst a, .lst b => eqL (eqB n) a b
  | _, _, _ => false
def eqD (n : Nat) (a b : D) : Option Bool := if okD n a && okD n b then some (eqB n a b) else .none
def anyEq (x : D) (l : List D) : Option Bool := if okD eqDeep x && l.all (okD eqDeep) then some (l.any fun y => eqB eqDeep y x) else .none
/-- a key of a dict: an int or a text -/
def isKey : D → Bool
  | .int _ => true
  | .str _ => true
  | _ => false
def keyEq : D → D → Bool
  | .int a, .int b => ieq a b
  | .str a, .str b => seq a b
  | _, _ => false
def hasK (ks : List D) (k : D) : Option Bool := if isKey k then some (ks.any fun y => keyEq y k) else .none
def lookK : List D → List D → D → Option D
  | k' :: ks, v :: vs, k => if keyEq k' k then some v else lookK ks vs k
  | _, _, _ => .none
def truth : D → Option Bool
  | .none => some false
  | .bl b => some b
  | .int i => some (i != 0)
  | .str s => if s.length ≤ sizeMax then some (!s.isEmpty) else .none
  | .tup l => some (!l.isEmpty)
  | .lst l => some (!l.isEmpty)
  | .ro l => some (!l.isEmpty)
  | .dct k _ => some (!k.isEmpty)
  | _ => .none
def slt : List Nat → List Nat → Bool
  | [], [] => false
  | [], _ :: _ => true
  | _ :: _, [] => false
  | a :: r, b :: q => if Nat.beq a b then slt r q else Nat.blt a b
def ltL (f : D → D → Option Bool) : List D → List D → Option Bool
  | [], [] => some false
  | [], _ :: _ => some true
  | _ :: _, [] => some false
  | x :: xs, y :: ys => match ltL f xs ys with
    | .none => .none
    | some r => if eqB eqDeep x y then some r else f x y
/-- < of data -/
def ltD : Nat → D → D → Option Bool
  | _, .int a, .int b => some (ilt a b)
  | _, .str a, .str b => some (slt a b)
  | n + 1, .tup a, .tup b => if a.all (okD eqDeep) && b.all (okD eqDeep) then ltL (ltD n) a b else .none
  | _, _, _ => .none
def band (a b : Int) : Option Int := match a, b with | .ofNat a, .ofNat b => some (.ofNat (a &&& b)) | _, _ => .none
def bor (a b : Int) : Option Int := match a, b with | .ofNat a, .ofNat b => some (.ofNat (a ||| b)) | _, _ => .none
def bxor (a b : Int) : Option Int := match a, b with | .ofNat a, .ofNat b => some (.ofNat (a ^^^ b)) | _, _ => .none
def p64 : Int := 18446744073709551616
def sml (a : Int) : Bool := ilt (-p64) a && ilt a p64
def binI : BOp → Int → Int → Option Int
  | .add, a, b => some (a + b)
  | .sub, a, b => some (a - b)
  | .mul, a, b => if sml a || sml b then some (a * b) else .none
  | .fdiv, a, b => if ilt 0 b && ilt b 1073741824 then some (a / b) else .none
  | .mod, a, b => if ilt 0 b then some (a % b) else .none
  | .pow, a, b => if ile 0 b && ile b 1000 && sml a then some (a ^ b.toNat) else .none
  | .shl, a, b => if ile 0 b && ile b 1000 && sml a then some (a * 2 ^ b.toNat) else .none
  | .shr, a, b => if ile 0 b then some (a / 2 ^ b.toNat) else .none
  | .band, a, b => band a b
  | .bor, a, b => bor a b
  | .bxor, a, b => bxor a b
def rep (k : Nat) (l : List D) : List D := match k with | 0 => [] | k + 1 => l ++ rep k l
def binD (op : BOp) : D → D → Option D
  | .int a, .int b => (binI op a b).map .int
  | .tup a, .tup b => match op with
    | .add => if a.length + b.length ≤ sizeMax then some (.tup (a ++ b)) else .none
    | _ => .none
  | .lst a, .lst b => match op with
    | .add => if a.length + b.length ≤ sizeMax then some (.lst (a ++ b)) else .none
    | _ => .none
  | .str a, .str b => match op with
    | .add => if a.length + b.length ≤ sizeMax then some (.str (a ++ b)) else .none
    | _ => .none
  | .lst a, .int k => match op with
    | .mul => if decide (k ≤ 100000) && decide (a.length * k.toNat ≤ sizeMax) && decide (-100000 ≤ k) then some (.lst (rep k.toNat a)) else .none
    | _ => .none
  | _, _ => .none
/-- what op= is served for -/
def augD (op : BOp) (x y : D) : Option D :=
  match x, y with
  | .int _, .int _ => (match op with | .pow => .none | op => binD op x y)
  | .str _, .str _ => (match op with | .add => binD .add x y | _ => .none)
  | _, _ => .none
def isNone : D → Bool | .none => true | _ => false
def cmpD (op : COp) (a b : D) : Option Bool :=
  match op with
  | .eq => eqD eqDeep a b
  | .ne => (eqD eqDeep a b).map not
  | .lt => ltD eqDeep a b
  | .gt => ltD eqDeep b a
  | .le => (match a, b with
    | .int x, .int y => some (ile x y)
    | _, _ => .none)
  | .ge => (match a, b with
    | .int x, .int y => some (ile y x)
    | _, _ => .none)
  | .is => (match a, b with
    | x, .none => some (isNone x)
    | .bl x, .bl y => some (x == y)
    | _, _ => .none)
  | .isnot => (match a, b with
    | x, .none => some (!isNone x)
    | .bl x, .bl y => some (!(x == y))
    | _, _ => .none)
  | .isin => (match b with
    | .lst l => anyEq a l
    | .tup l => anyEq a l
    | .dct ks _ => hasK ks a
    | _ => .none)
  | .notin => (match b with
    | .lst l => (anyEq a l).map not
    | .tup l => (anyEq a l).map not
    | .dct ks _ => (hasK ks a).map not
    | _ => .none)
def idx (n : Nat) : Int → Option Nat
  | .ofNat i => if i < n then some i else .none
  | .negSucc i => if i < n then some (n - (i + 1)) else .none
def ixD : D → D → Option D
  | .lst l, .int i => (idx l.length i).bind fun j => l[j]?
  | .tup l, .int i => (idx l.length i).bind fun j => l[j]?
  | .ro l, .int i => (idx l.length i).bind fun j => l[j]?
  | .str l, .int i => if l.length ≤ sizeMax then (idx l.length i).bind fun j => l[j]?.map fun c => .str [c] else .none
  | .dct ks vs, k => if isKey k then lookK ks vs k else .none
  | _, _ => .none
def cut (n d : Nat) : D → Option Nat
  | .none => some d
  | .int (.ofNat i) => some (min i n)
  | .int (.negSucc i) => some (n - (i + 1))
  | _ => .none
def slcL {α : Type} (l : List α) (lo hi : D) : Option (List α) :=
  match cut l.length 0 lo, cut l.length l.length hi with
  | some i, some j => some ((l.drop i).take (j - i))
  | _, _ => .none
def slcD (a lo hi : D) : Option D :=
  match a with
  | .lst l => (slcL l lo hi).map .lst
  | .tup l => (slcL l lo hi).map .tup
  | .str l => if l.length ≤ sizeMax then (slcL l lo hi).map .str else .none
  | _ => .none
def repV : List D → List D → D → D → List D
  | k' :: ks, v' :: vs, k, v => (if keyEq k' k then v else v') :: repV ks vs k v
  | _, _, _, _ => []
def putK (ks vs : List D) (k v : D) : List D × List D := if ks.any fun y => keyEq y k then (ks, repV ks vs k v) else (ks ++ [k], vs ++ [v])
def putD (ks vs : List D) (k v : D) : Option (List D × List D) := if isKey k then some (putK ks vs k v) else .none
def intsD : List D → Option (List Int)
  | [] => some []
  | .int i :: r => (intsD r).map (i :: ·)
  | _ => .none
def blsD : List D → Option (List Bool)
  | [] => some []
  | .bl i :: r => (blsD r).map (i :: ·)
  | _ => .none
def rng (lo : Int) : Nat → List D
  | 0 => []
  | n + 1 => .int lo :: rng (lo + 1) n
def rngC (lo c : Int) : Nat → List D
  | 0 => []
  | n + 1 => .int lo :: rngC (lo + c) c n
def p62 : Int := 4611686018427387904
def in62 (a : Int) : Bool := ile (-p62) a && ilt a p62
def range12 (a b : Int) : Option D := if in62 a && in62 b && ((b - a).toNat ≤ sizeMax) then some (.lst (rng a (b - a).toNat)) else .none
def insI (x : Int) : List Int → List Int
  | [] => [x]
  | y :: ys => if ilt y x then y :: insI x ys else x :: y :: ys
def sortI : List Int → List Int
  | [] => []
  | x :: xs => insI x (sortI xs)
def minI : Int → List Int → Int
  | m, [] => m
  | m, y :: ys => minI (if ilt y m then y else m) ys
def maxI : Int → List Int → Int
  | m, [] => m
  | m, y :: ys => maxI (if ilt m y then y else m) ys
def ins (x : D) : List D → Option (List D)
  | [] => some [x]
  | y :: ys => match ltD eqDeep x y with
    | some true => some (x :: y :: ys)
    | some false => (ins x ys).map (y :: ·)
    | .none => .none
def sortD : List D → Option (List D)
  | [] => some []
  | x :: xs => (sortD xs).bind fun ys => insL x ys
where
  insL (x : D) : List D → Option (List D)
    | [] => some [x]
    | y :: ys => match ltD eqDeep y x with
      | some true => (insL x ys).map (y :: ·)
      | some false => some (x :: y :: ys)
      | .none => .none
def minD : D → List D → Option D
  | m, [] => some m
  | m, y :: ys => match ltD eqDeep y m with
    | some true => minD y ys
    | some false => minD m ys
    | .none => .none
def maxD : D → List D → Option D
  | m, [] => some m
  | m, y :: ys => match ltD eqDeep m y with
    | some true => maxD y ys
    | some false => maxD m ys
    | .none => .none
def dedup : List D → Option (List D)
  | [] => some []
  | x :: xs => (dedup xs).bind fun ys => match anyEq x ys with
    | some true => some ys
    | some false => some (x :: ys)
    | .none => .none
def seqOf : D → Option (List D)
  | .lst l => some l
  | .tup l => some l
  | .dct ks _ => some ks
  | .str s => some (s.map fun c => .str [c])
  | _ => .none
def fact : Nat → Nat | 0 => 1 | n + 1 => (n + 1) * fact n
def choose : Nat → Nat → Nat
  | _, 0 => 1
  | 0, _ + 1 => 0
  | n + 1, k + 1 => choose n k + choose n (k + 1)
def picks : List D → List (D × List D)
  | [] => []
  | x :: xs => (x, xs) :: (picks xs).map fun p => (p.1, x :: p.2)
def permsL : Nat → List D → List (List D)
  | 0, _ => [[]]
  | n + 1, l => (picks l).flatMap fun p => (permsL n p.2).map (p.1 :: ·)
def combsL : Nat → List D → List (List D)
  | 0, _ => [[]]
  | _ + 1, [] => []
  | n + 1, x :: xs => (combsL n xs).map (x :: ·) ++ combsL (n + 1) xs
def zipD : List D → List D → List D
  | x :: xs, y :: ys => .tup [x, y] :: zipD xs ys
  | _, _ => []
def enumD (i : Int) : List D → List D
  | [] => []
  | x :: xs => .tup [.int i, x] :: enumD (i + 1) xs
def enS : D → Option (List D)
  | .tup l => some l
  | .ro l => some l
  | _ => .none
def enS2 : D → Option (List D)
  | .lst l => some l
  | .tup l => some l
  | .ro l => some l
  | _ => .none
def intsT : D → Option (List Int)
  | .tup l => intsD l
  | .lst l => intsD l
  | _ => .none
def intsL : D → Option (List Int)
  | .lst l => intsD l
  | _ => .none
def blsL : D → Option (List Bool)
  | .lst l => blsD l
  | _ => .none
def ixGo (x : D) (i : Nat) : List D → Option D
  | [] => .none
  | y :: ys => match eqB eqDeep y x with
    | true => some (.int (Int.ofNat i))
    | false => ixGo x (i + 1) ys
def d1 (f : D → Option D) : List D → Option D
  | [a] => f a
  | _ => .none
def d2 (f : D → D → Option D) : List D → Option D
  | [a, b] => f a b
  | _ => .none
def d3 (f : D → D → D → Option D) : List D → Option D
  | [a, b, c] => f a b c
  | _ => .none
def i1 (f : Int → Option D) : D → Option D
  | .int i => f i
  | _ => .none
def i2 (f : Int → Int → Option D) : D → D → Option D
  | .int i, .int j => f i j
  | _, _ => .none
def i3 (f : Int → Int → Int → Option D) : D → D → D → Option D
  | .int i, .int j, .int k => f i j k
  | _, _, _ => .none
def pLen : D → Option D
  | .ro l => some (.int l.length)
  | .str s => if s.length ≤ sizeMax then some (.int s.length) else .none
  | .lst l => some (.int l.length)
  | .tup l => some (.int l.length)
  | .dct l _ => some (.int l.length)
  | _ => .none
def pTuple : D → Option D
  | .lst l => some (.tup l)
  | .tup l => some (.tup l)
  | _ => .none
def pList : D → Option D
  | .lst l => some (.lst l)
  | .tup l => some (.lst l)
  | _ => .none
def pSum (a : D) : Option D := (intsL a).map fun l => .int l.sum
def pAny (a : D) : Option D := (blsL a).map fun l => .bl (l.any id)
def pAll (a : D) : Option D := (blsL a).map fun l => .bl (l.all id)
/-- rows of ints in order -/
def ltI : List Int → List Int → Bool
  | _, [] => false
  | [], _ :: _ => true
  | x :: xs, y :: ys => if ieq x y then ltI xs ys else ilt x y
def rowI : D → Option (List Int)
  | .tup l => intsD l
  | _ => .none
def rowsI : List D → Option (List (List Int))
  | [] => some []
  | d :: r => match rowI d with
    | some x => (rowsI r).map (x :: ·)
    | .none => .none
def minRow (m : List Int) : List (List Int) → List Int
  | [] => m
  | y :: ys => minRow (if ltI y m then y else m) ys
def pMinR : D → Option D
  | .lst l => match rowsI l with
    | some (x :: xs) => some (.tup ((minRow x xs).map .int))
    | _ => .none
  | _ => .none
def pMin1 (a : D) : Option D := match intsT a with | some (x :: xs) => some (.int (minI x xs)) | some [] => .none | .none => pMinR a
def pMax1 (a : D) : Option D := match intsT a with | some (x :: xs) => some (.int (maxI x xs)) | _ => .none
def pMaxd (a d : D) : Option D := match seqOf a with | some (x :: xs) => maxD x xs | some [] => some d | _ => .none
def pMind (a d : D) : Option D := match seqOf a with | some (x :: xs) => minD x xs | some [] => some d | _ => .none
def pSorted (a : D) : Option D := (intsL a).map fun l => .lst ((sortI l).map .int)
def pSortedRev (a : D) : Option D := ((seqOf a).bind sortD).map fun l => .lst l.reverse
def dedupI : List Int → List Int
  | [] => []
  | x :: xs => match xs.any (fun y => ieq y x) with
    | true => dedupI xs
    | false => x :: dedupI xs
/-- sorted(set(xs)), a list of less than 64 ints -/
def pSortedSet (a : D) : Option D := match intsL a with
  | some ns => match Nat.blt ns.length 64 with
    | true => some (.lst ((sortI (dedupI ns)).map .int))
    | false => .none
  | .none => .none
def pLenSet (a : D) : Option D := ((seqOf a).bind dedup).map fun l => .int l.length
def pInt : D → Option D
  | .int i => some (.int i)
  | .bl b => some (.int (if b then 1 else 0))
  | _ => .none
def pBool : D → Option D
  | .int i => some (.bl (i != 0))
  | .bl b => some (.bl b)
  | _ => .none
inductive Ty where | int | bool | str | tuple | list
def hasTy : Ty → D → Bool
  | .int, .int _ => true
  | .int, .bl _ => true
  | .bool, .bl _ => true
  | .str, .str _ => true
  | .tuple, .tup _ => true
  | .list, .lst _ => true
  | _, _ => false
def plain : D → Bool
  | .ro _ => false
  | .fn _ => false
  | .loc _ => false
  | _ => true
def pIs (ts : List Ty) (a : D) : Option D := if plain a then some (.bl (ts.any fun t => hasTy t a)) else .none
def pRange3 (a b c : Int) : Option D := if in62 a && in62 b then (if ieq c (-1) then some (.lst (rngC a (-1) (a - b).toNat)) else if ilt 0 c && ilt c 1000000 then some (.lst (rngC a c ((b - a + c - 1) / c).toNat)) else .none) else .none
def pFact : D → Option D
  | .int (.ofNat n) => if Nat.ble n 12 then some (.int (fact n)) else .none
  | _ => .none
def pComb : D → D → Option D
  | .int (.ofNat n), .int (.ofNat k) => if Nat.ble n 1000 then some (.int (choose n k)) else .none
  | _, _ => .none
def pBits : D → Option D
  | .int (.ofNat n) => some (.int (if n = 0 then 0 else Nat.log2 n + 1))
  | _ => .none
def pIndex (a x : D) : Option D := match a with | .lst l => if l.all (okD eqDeep) && okD eqDeep x then ixGo x 0 l else .none | _ => .none
def pGet1 (a k : D) : Option D := match a with | .dct ks vs => if isKey k then some ((lookK ks vs k).getD .none) else .none | _ => .none
def pGet2 (a k d : D) : Option D := match a with | .dct ks vs => if isKey k then some ((lookK ks vs k).getD d) else .none | _ => .none
def pValues : D → Option D
  | .dct _ vs => some (.lst vs)
  | _ => .none
def pKeys : D → Option D
  | .dct ks _ => some (.lst ks)
  | _ => .none
def pItems : D → Option D
  | .dct ks vs => some (.lst (zipD ks vs))
  | _ => .none
def toTup : Option D → Option D
  | some (.lst l) => some (.tup l)
  | _ => .none
def primD : Prim → List D → Option D
  | .len => d1 pLen
  | .tuple => d1 pTuple
  | .list => d1 pList
  | .sum => d1 pSum
  | .any => d1 pAny
  | .all => d1 pAll
  | .min1 => d1 pMin1
  | .max1 => d1 pMax1
  | .min2 => d2 (i2 fun a b => some (.int (if ilt b a then b else a)))
  | .max2 => d2 (i2 fun a b => some (.int (if ilt a b then b else a)))
  | .maxd => d2 pMaxd
  | .mind => d2 pMind
  | .sorted => d1 pSorted
  | .sortedRev => d1 pSortedRev
  | .sortedSet => d1 pSortedSet
  | .lenSet => d1 pLenSet
  | .abs => d1 (i1 fun i => some (.int (if ilt i 0 then -i else i)))
  | .int => d1 pInt
  | .bool => d1 pBool
  | .isint => d1 (pIs [.int])
  | .isbool => d1 (pIs [.bool])
  | .isstr => d1 (pIs [.str])
  | .istuple => d1 (pIs [.tuple])
  | .islist => d1 (pIs [.list])
  | .isseq => d1 (pIs [.list, .tuple])
  | .isintstr => d1 (pIs [.int, .str])
  | .range1 => d1 (i1 fun n => range12 0 n)
  | .range2 => d2 (i2 range12)
  | .range3 => d3 (i3 pRange3)
  | .lrange1 => d1 (i1 fun n => range12 0 n)
  | .lrange2 => d2 (i2 range12)
  | .trange1 => d1 (i1 fun n => toTup (range12 0 n))
  | .trange2 => d2 (i2 fun a b => toTup (range12 a b))
  | .factorial => d1 pFact
  | .comb => d2 pComb
  | .perms => d1 fun a => (seqOf a).map fun l => .lst ((permsL l.length l).map .tup)
  | .combs => d2 fun a k => match k with | .int k => (seqOf a).map fun l => .lst ((combsL k.toNat l).map .tup) | _ => .none
  | .bitlen => d1 pBits
  | .index => d2 pIndex
  | .get1 => d2 pGet1
  | .get2 => d3 pGet2
  | .values => d1 pValues
  | .keys => d1 pKeys
  | .items => d1 pItems
  | .rev => d1 fun a => (seqOf a).map fun l => .lst l.reverse
  | .enum => d1 fun a => (enS a).map fun l => .lst (enumD 0 l)
  | .zip => d2 fun a b => (seqOf a).bind fun l => (seqOf b).map fun m => .lst (zipD l m)
  | _ => fun _ => .none
/-! ### targets -/
def wipe (env : Env) : List Nat → Env
  | [] => env
  | i :: r => (wipe env r).set i .none
mutual
def setTg : Ex → D → Env → Option Env
  | .var i, d, env => (gl (some d)).map fun d => env.set i (some d)
  | .tup ts, .tup l, env => setTgs ts l env
  | _, _, _ => .none
def setTgs : Ex → List D → Env → Option Env
  | .nil, [], env => some env
  | .cons t ts, d :: l, env => (setTg t d env).bind fun env' => setTgs ts l env'
  | _, _, _ => .none
end
/-! ### expressions -/
def compL (f : D → Store → Out (Option D)) : List D → Store → Out (List D)
  | [], st => .ok [] st
  | x :: xs, st => (f x st).bind fun y st1 => (compL f xs st1).bind fun ys st2 =>
    match y with
    | some y => .ok (y :: ys) st2
    | .none => .ok ys st2
def dcompL (f : D → Store → Out (Option (D × D))) : List D → List D → List D → Store → Out (List D × List D)
  | [], ks, vs, st => .ok (ks, vs) st
  | x :: xs, ks, vs, st => (f x st).bind fun y st1 =>
    match y with
    | some (k, v) => (opt st1 (putD ks vs k v)).bind fun p st2 => dcompL f xs p.1 p.2 st2
    | .none => dcompL f xs ks vs st1
def flat2 (f : D → Store → Out (List D)) : List D → Store → Out (List D)
  | [], st => .ok [] st
  | x :: xs, st => (f x st).bind fun ys st1 => (flat2 f xs st1).bind fun zs st2 => .ok (ys ++ zs) st2
def dictL : List D → List D → List D → List D → Option (List D × List D)
  | k :: ks, v :: vs, aks, avs => (putD aks avs k v).bind fun p => dictL ks vs p.1 p.2
  | _, _, aks, avs => some (aks, avs)
def escL : List D → Store → Out (List D)
  | [], st => .ok [] st
  | d :: ds, st => (esc st d).bind fun d' st1 => (escL ds st1).bind fun r st2 => .ok (d' :: r) st2
abbrev CallF := Nat → List D → Store → Out D
def isCN : Ex → Bool
  | .cst .none => true
  | _ => false
/-- what a method is served for -/
def recvOk : Prim → D → Bool
  | .index, .lst _ => true
  | .bitlen, .int _ => true
  | .get1, .dct _ _ => true
  | .get2, .dct _ _ => true
  | _, _ => false
def partOk (n : Bool) : D → Bool
  | .int _ => !n
  | .none => n
  | _ => false
/-- what a for walks along -/
def srcOf : D → Option (List D)
  | .ro l => some l
  | .lst l => some l
  | .tup l => some l
  | _ => .none
def srcL (o : Out D) : Out (List D) := o.bind fun s st => (esc st s).bind fun s st => opt st (srcOf s)
def callE (cf : CallF) (j : Nat) (l : List D) (st : Store) : Out D := match l with
  | [] => (cf j [] st).noexc
  | l => cf j l st
mutual
def evE (cf : CallF) : Ex → Env → Store → Out D
  | .var i, env, st => match env[i]? with
    | some (some d) => .ok d st
    | _ => .stuck
  | .cst d, _, st => .ok d st
  | .bin op a b, env, st => (evE cf a env st).bind fun x st => (evE cf b env st).bind fun y st => opg st (binD op (resolve st x) (resolve st y))
  | .neg a, env, st => (evE cf a env st).bind fun x st => match x with
    | .int i => .ok (.int (-i)) st
    | _ => .stuck
  | .cmp op a b, env, st => (evE cf a env st).bind fun x st => (evE cf b env st).bind fun y st => opt st ((cmpD op (resolve st x) (resolve st y)).map .bl)
  | .chain op op' a b c, env, st => (evE cf a env st).bind fun x st => (evE cf b env st).bind fun y st => match cmpD op (resolve st x) (resolve st y) with
    | some true => (evE cf c env st).bind fun z st => opt st ((cmpD op' (resolve st y) (resolve st z)).map .bl)
    | some false => .ok (.bl false) st
    | .none => .stuck
  | .and a b, env, st => (evE cf a env st).bind fun x st => match truth (resolve st x) with
    | some true => evE cf b env st
    | some false => .ok x st
    | .none => .stuck
  | .or a b, env, st => (evE cf a env st).bind fun x st => match truth (resolve st x) with
    | some true => .ok x st
    | some false => evE cf b env st
    | .none => .stuck
  | .not a, env, st => (evE cf a env st).bind fun x st => opt st ((truth (resolve st x)).map fun b => .bl !b)
  | .ite c a b, env, st => (evE cf c env st).bind fun x st => match truth (resolve st x) with
    | some true => evE cf a env st
    | some false => evE cf b env st
    | .none => .stuck
  | .tup as, env, st => (evL cf as env st).bind fun l st => (escL l st).bind fun l st => if l.length ≤ sizeMax then .ok (.tup l) st else .stuck
  | .lst as, env, st => (evL cf as env st).bind fun l st => (escL l st).bind fun l st => if l.length ≤ sizeMax then .ok (.lst l) st else .stuck
  | .ix a b, env, st => (evE cf a env st).bind fun x st => (evE cf b env st).bind fun y st => opg st (ixD (resolve st x) (resolve st y))
  | .slc a lo hi, env, st => (evE cf a env st).bind fun x st => (evE cf lo env st).bind fun y st => if partOk (isCN lo) y then (evE cf hi env st).bind fun z st => if partOk (isCN hi) z then opg st (slcD (resolve st x) y z) else .stuck else .stuck
  | .slcR a, env, st => (evE cf a env st).bind fun x st => match resolve st x with
    | .lst l => .ok (.lst l.reverse) st
    | .tup l => .ok (.tup l.reverse) st
    | _ => .stuck
  | .call j as, env, st => (evL cf as env st).bind fun l st => callE cf j l st
  | .calv i n as, env, st => match env[i]? with
    | some (some (.fn j)) => if Nat.blt j n then (evL cf as env st).bind fun l st => cf j l st else .stuck
    | _ => .stuck
  | .prim p as, env, st => (evL cf as env st).bind fun l st => opg st (primD p (l.map (resolve st)))
  | .meth p o as, env, st => (evE cf o env st).bind fun x st => if recvOk p (resolve st x) then (evL cf as env st).bind fun l st => opg st (primD p (resolve st x :: l.map (resolve st))) else .stuck
  | .comp elt own tg src c, env, st => (srcL (evE cf src env st)).bind fun l st => (compL (fun x st => match setTg tg x (wipe env own) with
        | some env' => (evE cf c env' st).bind fun b st => match truth (resolve st b) with
          | some true => (evE cf elt env' st).bind fun y st => (esc st y).bind fun y st => .ok (some y) st
          | some false => .ok .none st
          | .none => .stuck
        | .none => .stuck) l st).noexc.bind fun r st => if r.length ≤ sizeMax then .ok (.lst r) st else .stuck
  | .comp2 elt own tg src tg2 src2, env, st => (srcL (evE cf src env st)).bind fun l st => (flat2 (fun x st => match setTg tg x (wipe env own) with
        | some env' => (srcL (evE cf src2 env' st)).bind fun l2 st => compL (fun x2 st => match setTg tg2 x2 env' with
            | some env'' => (evE cf elt env'' st).bind fun y st => (esc st y).bind fun y st => .ok (some y) st
            | .none => .stuck) l2 st
        | .none => .stuck) l st).noexc.bind fun r st => if r.length ≤ sizeMax then .ok (.lst r) st else .stuck
  | .dcomp k v own tg src c, env, st => (srcL (evE cf src env st)).bind fun l st => (dcompL (fun x st => match setTg tg x (wipe env own) with
        | some env' => (evE cf c env' st).bind fun b st => match truth (resolve st b) with
          | some true => (evE cf k env' st).bind fun kk st => (evE cf v env' st).bind fun y st => (esc st y).bind fun y st => .ok (some (kk, y)) st
          | some false => .ok .none st
          | .none => .stuck
        | .none => .stuck) l [] [] st).noexc.bind fun r st => .ok (.dct r.1 r.2) st
  | .dict ks vs, env, st => (evL cf ks env st).bind fun k st => (evL cf vs env st).bind fun v st => (escL v st).bind fun v st => opt st ((dictL k v [] []).map fun p => .dct p.1 p.2)
  | .enumE a, env, st => (evE cf a env st).bind fun x st => (esc st x).bind fun y st => opt st ((enS2 y).map fun l => .lst (enumD 0 l))
  | .nil, _, _ => .stuck
  | .cons _ _, _, _ => .stuck
def evL (cf : CallF) : Ex → Env → Store → Out (List D)
  | .nil, _, st => .ok [] st
  | .cons a as, env, st => (evE cf a env st).bind fun x st => (evL cf as env st).bind fun l st => .ok (x :: l) st
  | _, _, _ => .stuck
end
/-! ### statements -/
inductive Fl where
  | nx (env : Env) | bk (env : Env) | ct (env : Env) | rt (d : D)
def forL (f : D → Env → Store → Out Fl) : List D → Env → Store → Out Fl
  | [], env, st => .ok (.nx env) st
  | d :: ds, env, st => (f d env st).bind fun fl st => match fl with
    | .nx env' => forL f ds env' st
    | .ct env' => forL f ds env' st
    | .bk env' => .ok (.nx env') st
    | .rt d => .ok (.rt d) st
def whL (c : Env → Store → Out Bool) (f : Env → Store → Out Fl) : Nat → Env → Store → Out Fl
  | 0, _, _ => .stuck
  | n + 1, env, st => (c env st).bind fun b st => match b with
    | false => .ok (.nx env) st
    | true => (f env st).bind fun fl st => match fl with
      | .nx env' => whL c f n env' st
      | .ct env' => whL c f n env' st
      | .bk env' => .ok (.nx env') st
      | .rt d => .ok (.rt d) st
/-- a cell changed -/
def wr (st : Store) (x : D) (g : D → Option D) : Option Store :=
  match x with
  | .loc l => match st[l]? with
    | some ⟨false, d⟩ => (g d).map fun d' => st.set l ⟨false, d'⟩
    | _ => .none
  | _ => .none
def putIx (k v : D) : D → Option D
  | .lst l => match k with
    | .int i => (idx l.length i).map fun j => .lst (l.set j v)
    | _ => .none
  | .dct ks vs => if ks.length < sizeMax then (putD ks vs k v).map fun p => .dct p.1 p.2 else .none
  | _ => .none
def isLst : D → Bool
  | .lst _ => true
  | _ => false
def appD (v : D) : D → Option D
  | .lst l => if l.length < sizeMax then some (.lst (l ++ [v])) else .none
  | _ => .none
def extD (v : D) : D → Option D
  | .lst l => match v with
    | .lst m => if l.length + m.length ≤ sizeMax then some (.lst (l ++ m)) else .none
    | _ => .none
  | _ => .none
def popD : D → Option (D × D)
  | .lst l => match l.getLast? with
    | some x => some (x, .lst l.dropLast)
    | .none => .none
  | _ => .none
def newD (d : D) (st : Store) : Out D := match d with
  | .lst l => .ok (.lst l) st
  | .dct k l => .ok (.dct k l) st
  | _ => .stuck
/-- the value, as a new cell if n -/
def evN (cf : CallF) (n : Bool) (e : Ex) (env : Env) (st : Store) : Out D :=
  match n with
  | true => ((evE cf e env st).bind newD).bind fun x st => .ok (.loc st.length) (st ++ [⟨false, x⟩])
  | false => evE cf e env st
/-- an item of a list's cell -/
def lstAt (x k : D) (st : Store) : Out D := match x, k with
  | .loc l, .int (.ofNat i) => match st[l]? with
    | some ⟨false, .lst ds⟩ => opt st ds[i]?
    | _ => .stuck
  | _, _ => .stuck
def fuel : Nat := 100000000
def evS (cf : CallF) : Sm → Env → Store → Out Fl
  | .nil, env, st => .ok (.nx env) st
  | .seq s r, env, st => (evS cf s env st).bind fun fl st => match fl with
    | .nx env' => evS cf r env' st
    | fl => .ok fl st
  | .set tg e, env, st => (evE cf e env st).bind fun x st => match tg with
    | .var i => .ok (.nx (env.set i (some x))) st
    | tg => (opt st (setTg tg (resolve st x) env)).bind fun env' st => .ok (.nx env') st
  | .new i e, env, st => (evN cf true e env st).bind fun x st => .ok (.nx (env.set i (some x))) st
  | .setIx c ix e, env, st => (evE cf e env st).bind fun v st => (evE cf c env st).bind fun x st => (evE cf ix env st).bind fun k st => (esc st v).bind fun v st =>
    match wr st x (putIx k v) with
    | some st' => .ok (.nx env) st'
    | .none => .stuck
  | .par i ni j nj a b, env, st => (evN cf ni a env st).bind fun x st => (evN cf nj b env st).bind fun y st => .ok (.nx ((env.set i (some x)).set j (some y))) st
  | .aug i op e, env, st => match env[i]? with
    | some (some x) => (evE cf e env st).bind fun y st => (opt st (augD op x (resolve st y))).bind fun z st => .ok (.nx (env.set i (some z))) st
    | _ => .stuck
  | .augIx c ix op e, env, st => (evE cf c env st).bind fun x st => (evE cf ix env st).bind fun k st => (lstAt x k st).bind fun o st =>
    (evE cf e env st).bind fun y st => (opt st (augD op o (resolve st y))).bind fun z st =>
    match wr st x (putIx k z) with
    | some st' => .ok (.nx env) st'
    | .none => .stuck
  | .app c e, env, st => (evE cf c env st).bind fun x st => if isLst (resolve st x) then (evE cf e env st).bind fun v st => (esc st v).bind fun v st =>
    match wr st x (appD v) with
    | some st' => .ok (.nx env) st'
    | .none => .stuck
    else .stuck
  | .ext c e, env, st => (evE cf c env st).bind fun x st => if isLst (resolve st x) then (evE cf e env st).bind fun v st =>
    match wr st x (extD (resolve st v)) with
    | some st' => .ok (.nx env) st'
    | .none => .stuck
    else .stuck
  | .popTo i c, env, st => (evE cf c env st).bind fun x st =>
    match popD (resolve st x) with
    | some (y, _) => match wr st x (fun d => (popD d).map (·.2)) with
      | some st' => .ok (.nx (env.set i (some y))) st'
      | .none => .stuck
    | .none => .stuck
  | .popTg tg c, env, st => (evE cf c env st).bind fun x st =>
    match popD (resolve st x) with
    | some (y, _) => match wr st x (fun d => (popD d).map (·.2)) with
      | some st' => (opt st' (setTg tg y env)).bind fun env' st => .ok (.nx env') st
      | .none => .stuck
    | .none => .stuck
  | .expr e, env, st => (evE cf e env st).bind fun _ st => .ok (.nx env) st
  | .ret e, env, st => (evE cf e env st).bind fun x st => .ok (.rt x) st
  | .retN, _, st => .ok (.rt .none) st
  | .ite c a b, env, st => (evE cf c env st).bind fun x st => match truth (resolve st x) with
    | some true => evS cf a env st
    | some false => evS cf b env st
    | .none => .stuck
  | .for tg src b, env, st => (srcL (evE cf src env st)).bind fun l st => forL (fun x env st => match setTg tg x env with
      | some env' => evS cf b env' st
      | .none => .stuck) l env st
  | .whil c b, env, st => whL (fun env st => (evE cf c env st).bind fun x st => opt st (truth (resolve st x))) (evS cf b) fuel env st
  | .brk, env, st => .ok (.bk env) st
  | .cont, env, st => .ok (.ct env) st
  | .pass, env, st => .ok (.nx env) st
  | .bad, _, _ => .stuck
  | .rais cls e, env, st => (evE cf e env st).bind fun x st => .exc (.tup [.int cls, x]) st
  | .tryc b cls i h, env, st => match evS cf b env st with
    | .exc (.tup [.int k, x]) st => if k == cls then evS cf h (env.set i (some x)) st else .exc (.tup [.int k, x]) st
    | o => o
def start (n : Nat) (ds : List D) : Env := ds.map some ++ List.replicate (n - ds.length) .none
def fin (n : Nat) (st : Store) : D → Out D
  | .loc l => if l < n then .ok (.loc l) (st.take n) else match isLoc (resolve st (.loc l)) with
    | true => .stuck
    | false => .ok (resolve st (.loc l)) (st.take n)
  | d => .ok d (st.take n)
/-- behind a call its cells are forgotten; a def that makes none (keep) leaves the store as it is -/
def runFn (cf : CallF) (f : Fn) (as : List D) (st : Store) : Out D :=
  if as.length = f.ps then
    match f.keep with
    | true => match evS cf f.body (start f.sl as) st with
      | .ok (.nx _) st' => .ok .none st'
      | .ok (.rt d) st' => .ok d st'
      | .exc e st' => .exc e st'
      | _ => .stuck
    | false => match evS cf f.body (start f.sl as) st with
      | .ok (.nx _) st' => .ok .none (st'.take st.length)
      | .ok (.rt d) st' => fin st.length st' d
      | .exc e st' => .exc e (st'.take st.length)
      | _ => .stuck
  else .stuck
def callF (T : List Fn) : Nat → CallF
  | 0, _, _, _ => .stuck
  | k + 1, j, as, st => match T[j]? with
    | some f => runFn (callF T k) f as st
    | .none => .stuck
end Py
end
section
set_option Elab.async false
set_option linter.all false
set_option maxRecDepth 100000
namespace Py
open PySem L2

abbrev Frg := PySem.W.Frag
/-- a cell that may still be written stands at a -/
def Wr (ρ : List Addr) (st : Store) (a : Addr) : Prop := ∃ (i : Nat) (c : Cell), ρ[i]? = some a ∧ st[i]? = some c ∧ c.fz = false
/-- .. or one that stands aside -/
def Wu (U : Addr → Prop) (ρ : List Addr) (st : Store) (a : Addr) : Prop := U a ∨ Wr ρ st a
def keyOf : D → Option Key
  | .int i => some (.inl i)
  | .str s => some (.inr ⟨s.toArray⟩)
  | _ => .none
section
variable (K : Frg) (fa : Nat → Addr)
/-- a tuple that stays -/
def TAt (W : Addr → Prop) (H : Hp) (a : Addr) (vs : List V) : Prop := (¬ W a ∧ Rd H a (.tup vs)) ∨ ∀ H', SqT K H' a vs
/-- a list that nobody writes -/
def RAt (W : Addr → Prop) (H : Hp) (a : Addr) (vs : List V) : Prop := (¬ W a ∧ Rd H a (.lst vs)) ∨ ∀ H', SqL K H' a vs
def LAt (W : Addr → Prop) (H : Hp) (a : Addr) (vs : List V) : Prop := ¬ W a ∧ H a = some (.lst vs)
def KAt (W : Addr → Prop) (H : Hp) (a : Addr) (kvs : List (Key × V)) : Prop := ¬ W a ∧ H a = some (.dK kvs)
mutual
/-- v bears the datum -/
def Rep (W : Addr → Prop) (H : Hp) : D → V → Prop
  | .none, v => v = .non
  | .bl b, v => v = .bl b
  | .int i, v => v = .int i
  | .str s, v => v = .str ⟨s.toArray⟩
  | .fn j, v => v = .ref (fa j)
  | .loc _, _ => False
  | .tup ds, v => ∃ a vs, v = .ref a ∧ TAt K W H a vs ∧ Reps W H ds vs
  | .lst ds, v => ∃ a vs, v = .ref a ∧ LAt W H a vs ∧ Reps W H ds vs
  | .ro ds, v => ∃ a vs, v = .ref a ∧ RAt K W H a vs ∧ Reps W H ds vs
  | .dct ks ds, v => ∃ a kvs, v = .ref a ∧ KAt W H a kvs ∧ ks.map keyOf = kvs.map (fun p => some p.1) ∧ Reps W H ds (kvs.map (·.2))
def Reps (W : Addr → Prop) (H : Hp) : List D → List V → Prop
  | [], vs => vs = []
  | d :: ds, vs => ∃ v r, vs = v :: r ∧ Rep W H d v ∧ Reps W H ds r
end
/-- a value: a cell's address, or a datum -/
def VRel (ρ : List Addr) (W : Addr → Prop) (H : Hp) : D → V → Prop
  | .loc l, v => ∃ a, v = .ref a ∧ ρ[l]? = some a
  | d, v => Rep K fa W H d v
def VRels (ρ : List Addr) (W : Addr → Prop) (H : Hp) : List D → List V → Prop
  | [], vs => vs = []
  | d :: ds, vs => ∃ v r, vs = v :: r ∧ VRel K fa ρ W H d v ∧ VRels ρ W H ds r
/-- what stands in a cell -/
def CellAt (W : Addr → Prop) (H : Hp) (a : Addr) : D → Prop
  | .lst ds => ∃ vs, H a = some (.lst vs) ∧ Reps K fa W H ds vs
  | .dct ks ds => ∃ kvs, H a = some (.dK kvs) ∧ ks.map keyOf = kvs.map (fun p => some p.1) ∧ Reps K fa W H ds (kvs.map (·.2))
  | _ => False
structure RelS (U : Addr → Prop) (ρ : List Addr) (st : Store) (H : Hp) : Prop where
  len : ρ.length = st.length
  nd : ρ.Nodup
  ud : ∀ a, U a → a ∉ ρ
  ut : ∀ a, U a → ∃ o, H a = some o
  cell : ∀ (i : Nat) (a : Addr) (c : Cell), ρ[i]? = some a → st[i]? = some c → CellAt K fa (Wu U ρ st) H a c.d
structure Rel (U : Addr → Prop) (ρ : List Addr) (env : Env) (st : Store) (σ : L2.St) (H : Hp) : Prop extends RelS K fa U ρ st H where
  env : ∀ (i : Nat) (d : D), env[i]? = some (some d) → ∃ v, σ[i]? = some (some v) ∧ VRel K fa ρ (Wu U ρ st) H d v
end
structure Ext (ρ : List Addr) (st : Store) (H : Hp) (ρ' : List Addr) (st' : Store) (H' : Hp) : Prop where
  pre : ∃ t, ρ' = ρ ++ t
  keep : ∀ a o, H a = some o → ¬ Wr ρ st a → H' a = some o
  wr : ∀ a, Wr ρ' st' a → Wr ρ st a ∨ H a = none
theorem Ext.refl {ρ : List Addr} {st : Store} {H : Hp} : Ext ρ st H ρ st H := ⟨⟨[], by simp⟩, fun _ _ h _ => h, fun _ h => .inl h⟩
theorem Ext.trans {ρ ρ1 ρ2 : List Addr} {st st1 st2 : Store} {H H1 H2 : Hp} (a : Ext ρ st H ρ1 st1 H1) (b : Ext ρ1 st1 H1 ρ2 st2 H2) : Ext ρ st H ρ2 st2 H2 where
  pre := by
    obtain ⟨t, rfl⟩ := a.pre
    obtain ⟨u, rfl⟩ := b.pre
    exact ⟨t ++ u, by simp⟩
  keep := fun x o h nw => b.keep x o (a.keep x o h nw) fun w => by
    rcases a.wr x w with z | z
    · exact nw z
    · rw [h] at z; cases z
  wr := fun x w => by
    rcases b.wr x w with z | z
    · exact a.wr x z
    · by_cases q : Wr ρ st x
      · exact .inl q
      · right
        cases e : H x with
        | none => rfl
        | some o => rw [a.keep x o e q] at z; cases z
section
variable {K : Frg} {fa : Nat → Addr}
/-- a step of the heap that keeps what data lean on -/
structure Step (W : Addr → Prop) (H : Hp) (W' : Addr → Prop) (H' : Hp) : Prop where
  keep : ∀ a o, H a = some o → ¬ W a → H' a = some o
  wr : ∀ a, W' a → W a ∨ H a = none
theorem Ext.step {U : Addr → Prop} {ρ ρ' : List Addr} {st st' : Store} {H H' : Hp} (x : Ext ρ st H ρ' st' H') : Step (Wu U ρ st) H (Wu U ρ' st') H' := ⟨fun a o h w => x.keep a o h fun z => w (.inr z), fun a w => by
  rcases w with w | w
  · exact .inl (.inl w)
  · rcases x.wr a w with q | q
    · exact .inl (.inr q)
    · exact .inr q⟩
variable {W W' : Addr → Prop} {H H' : Hp}
theorem Step.nw (x : Step W H W' H') {a : Addr} {o : HO} (h : H a = some o) (nw : ¬ W a) : ¬ W' a := fun z => by
  rcases x.wr a z with q | q
  · exact nw q
  · rw [h] at q; cases q
theorem Step.tat (x : Step W H W' H') {a : Addr} {vs : List V} (h : TAt K W H a vs) : TAt K W' H' a vs := by
  rcases h with ⟨nw, h⟩ | h
  · left
    rcases h with h | ⟨o, h⟩
    · exact ⟨x.nw h nw, .inl (x.keep _ _ h nw)⟩
    · exact ⟨x.nw h nw, .inr ⟨o, x.keep _ _ h nw⟩⟩
  · exact .inr h
theorem Step.rat (x : Step W H W' H') {a : Addr} {vs : List V} (h : RAt K W H a vs) : RAt K W' H' a vs := by
  rcases h with ⟨nw, h⟩ | h
  · left
    rcases h with h | ⟨o, h⟩
    · exact ⟨x.nw h nw, .inl (x.keep _ _ h nw)⟩
    · exact ⟨x.nw h nw, .inr ⟨o, x.keep _ _ h nw⟩⟩
  · exact .inr h
theorem Step.lat (x : Step W H W' H') {a : Addr} {vs : List V} (h : LAt W H a vs) : LAt W' H' a vs := ⟨x.nw h.2 h.1, x.keep _ _ h.2 h.1⟩
theorem Step.kat (x : Step W H W' H') {a : Addr} {vs : List (Key × V)} (h : KAt W H a vs) : KAt W' H' a vs := ⟨x.nw h.2 h.1, x.keep _ _ h.2 h.1⟩
mutual
theorem Step.rep (x : Step W H W' H') : ∀ (d : D) (v : V), Rep K fa W H d v → Rep K fa W' H' d v
  | .none, _, h => by simpa [Rep] using h
  | .bl _, _, h => by simpa [Rep] using h
  | .int _, _, h => by simpa [Rep] using h
  | .str _, _, h => by simpa [Rep] using h
  | .fn _, _, h => by simpa [Rep] using h
  | .loc _, _, h => by simp [Rep] at h
  | .tup ds, _, h => by
    simp only [Rep] at h ⊢
    obtain ⟨a, vs, e, t, r⟩ := h
    exact ⟨a, vs, e, x.tat t, Step.reps x ds vs r⟩
  | .lst ds, _, h => by
    simp only [Rep] at h ⊢
    obtain ⟨a, vs, e, t, r⟩ := h
    exact ⟨a, vs, e, x.lat t, Step.reps x ds vs r⟩
  | .dct ks ds, _, h => by
    simp only [Rep] at h ⊢
    obtain ⟨a, vs, e, t, k, r⟩ := h
    exact ⟨a, vs, e, x.kat t, k, Step.reps x ds _ r⟩
  | .ro ds, _, h => by
    simp only [Rep] at h ⊢
    obtain ⟨a, vs, e, t, r⟩ := h
    exact ⟨a, vs, e, x.rat t, Step.reps x ds vs r⟩
theorem Step.reps (x : Step W H W' H') : ∀ (ds : List D) (vs : List V), Reps K fa W H ds vs → Reps K fa W' H' ds vs
  | [], _, h => by simpa [Reps] using h
  | d :: ds, _, h => by
    simp only [Reps] at h ⊢
    obtain ⟨v, r, e, h1, h2⟩ := h
    exact ⟨v, r, e, Step.rep x d v h1, Step.reps x ds r h2⟩
end
theorem Ext.vrel {U : Addr → Prop} {ρ ρ' : List Addr} {st st' : Store} {H H' : Hp} (x : Ext ρ st H ρ' st' H') {d : D} {v : V} (h : VRel K fa ρ (Wu U ρ st) H d v) : VRel K fa ρ' (Wu U ρ' st') H' d v := by
  cases d with
  | loc l =>
    obtain ⟨a, e, q⟩ := h
    obtain ⟨t, rfl⟩ := x.pre
    refine ⟨a, e, ?_⟩
    rw [List.getElem?_append_left (List.getElem?_eq_some_iff.mp q).1]
    exact q
  | _ => exact x.step.rep _ _ h
theorem Ext.vrels {U : Addr → Prop} {ρ ρ' : List Addr} {st st' : Store} {H H' : Hp} (x : Ext ρ st H ρ' st' H') : ∀ {ds : List D} {vs : List V}, VRels K fa ρ (Wu U ρ st) H ds vs → VRels K fa ρ' (Wu U ρ' st') H' ds vs
  | [], _, h => h
  | d :: ds, _, ⟨v, r, e, h1, h2⟩ => ⟨v, r, e, x.vrel h1, Ext.vrels x h2⟩
theorem VRel.of {ρ : List Addr} {W : Addr → Prop} {H : Hp} {d : D} {v : V} (h : Rep K fa W H d v) : VRel K fa ρ W H d v := by
  cases d with
  | loc l => simp [Rep] at h
  | _ => exact h
theorem VRels.of {ρ : List Addr} {W : Addr → Prop} {H : Hp} : ∀ {ds : List D} {vs : List V}, Reps K fa W H ds vs → VRels K fa ρ W H ds vs
  | [], _, h => by simpa [Reps, VRels] using h
  | d :: ds, _, h => by
    simp only [Reps] at h
    obtain ⟨v, r, e, h1, h2⟩ := h
    exact ⟨v, r, e, .of h1, VRels.of h2⟩
theorem Reps.length : ∀ {ds : List D} {vs : List V}, Reps K fa W H ds vs → ds.length = vs.length
  | [], _, h => by simp [Reps] at h; simp [h]
  | d :: ds, _, h => by
    simp only [Reps] at h
    obtain ⟨v, r, rfl, _, h2⟩ := h
    simp [Reps.length h2]
theorem VRels.length {ρ : List Addr} : ∀ {ds : List D} {vs : List V}, VRels K fa ρ W H ds vs → ds.length = vs.length
  | [], _, h => by simp [VRels] at h; simp [h]
  | d :: ds, _, h => by
    obtain ⟨v, r, rfl, _, h2⟩ := h
    simp [VRels.length h2]
theorem Reps.get : ∀ {ds : List D} {vs : List V} {i : Nat} {d : D}, Reps K fa W H ds vs → ds[i]? = some d → ∃ v, vs[i]? = some v ∧ Rep K fa W H d v
  | [], _, _, _, _, e => by simp at e
  | d :: ds, _, 0, _, h, e => by
    simp only [Reps] at h
    obtain ⟨v, r, rfl, h1, _⟩ := h
    simp at e
    subst e
    exact ⟨v, rfl, h1⟩
  | d :: ds, _, i + 1, _, h, e => by
    simp only [Reps] at h
    obtain ⟨v, r, rfl, _, h2⟩ := h
    obtain ⟨w, e1, e2⟩ := Reps.get (i := i) h2 (by simpa using e)
    exact ⟨w, by simpa using e1, e2⟩
theorem Reps.append : ∀ {ds es : List D} {vs ws : List V}, Reps K fa W H ds vs → Reps K fa W H es ws → Reps K fa W H (ds ++ es) (vs ++ ws)
  | [], _, _, _, h, h' => by simp [Reps] at h; subst h; simpa using h'
  | d :: ds, _, _, _, h, h' => by
    simp only [Reps, List.cons_append] at h ⊢
    obtain ⟨v, r, rfl, h1, h2⟩ := h
    exact ⟨v, _, rfl, h1, Reps.append h2 h'⟩
theorem Reps.take : ∀ {ds : List D} {vs : List V} (n : Nat), Reps K fa W H ds vs → Reps K fa W H (ds.take n) (vs.take n)
  | [], _, n, h => by simp [Reps] at h; subst h; simp [Reps]
  | d :: ds, _, 0, h => by simp [Reps]
  | d :: ds, _, n + 1, h => by
    simp only [Reps, List.take_succ_cons] at h ⊢
    obtain ⟨v, r, rfl, h1, h2⟩ := h
    exact ⟨v, _, rfl, h1, Reps.take n h2⟩
theorem Reps.drop : ∀ {ds : List D} {vs : List V} (n : Nat), Reps K fa W H ds vs → Reps K fa W H (ds.drop n) (vs.drop n)
  | [], _, n, h => by simp [Reps] at h; subst h; simp [Reps]
  | d :: ds, _, 0, h => by simpa using h
  | d :: ds, _, n + 1, h => by
    simp only [Reps] at h
    obtain ⟨v, r, rfl, h1, h2⟩ := h
    simpa using Reps.drop n h2
theorem Reps.set {d : D} {v : V} (hd : Rep K fa W H d v) : ∀ {ds : List D} {vs : List V} (n : Nat), Reps K fa W H ds vs → Reps K fa W H (ds.set n d) (vs.set n v)
  | [], _, n, h => by simp [Reps] at h; subst h; simp [Reps]
  | d' :: ds, _, 0, h => by
    simp only [Reps, List.set_cons_zero] at h ⊢
    obtain ⟨v', r, rfl, h1, h2⟩ := h
    exact ⟨v, r, rfl, hd, h2⟩
  | d' :: ds, _, n + 1, h => by
    simp only [Reps, List.set_cons_succ] at h ⊢
    obtain ⟨v', r, rfl, h1, h2⟩ := h
    exact ⟨v', _, rfl, h1, Reps.set hd n h2⟩
theorem Reps.reverse : ∀ {ds : List D} {vs : List V}, Reps K fa W H ds vs → Reps K fa W H ds.reverse vs.reverse
  | [], _, h => by simp [Reps] at h; subst h; simp [Reps]
  | d :: ds, _, h => by
    simp only [Reps] at h
    obtain ⟨v, r, rfl, h1, h2⟩ := h
    rw [List.reverse_cons, List.reverse_cons]
    exact Reps.append (Reps.reverse h2) (by simp only [Reps]; exact ⟨v, [], rfl, h1, rfl⟩)
theorem Reps.toInts : ∀ {ds : List D} {vs : List V} {ns : List Int}, Reps K fa W H ds vs → intsD ds = some ns → vs = ns.map V.int
  | [], _, ns, h, e => by simp [Reps] at h; simp [Py.intsD] at e; subst h e; rfl
  | d :: ds, _, ns, h, e => by
    simp only [Reps] at h
    obtain ⟨v, r, rfl, h1, h2⟩ := h
    cases d <;> simp only [Py.intsD] at e <;> try cases e
    rename_i i
    cases q : Py.intsD ds with
    | none => rw [q] at e; cases e
    | some ms =>
      rw [q] at e
      simp at e
      subst e
      rw [Reps.toInts h2 q]
      simp [Rep] at h1
      simp [h1]
theorem Reps.toBls : ∀ {ds : List D} {vs : List V} {ns : List Bool}, Reps K fa W H ds vs → blsD ds = some ns → vs = ns.map V.bl
  | [], _, ns, h, e => by simp [Reps] at h; simp [Py.blsD] at e; subst h e; rfl
  | d :: ds, _, ns, h, e => by
    simp only [Reps] at h
    obtain ⟨v, r, rfl, h1, h2⟩ := h
    cases d <;> simp only [Py.blsD] at e <;> try cases e
    rename_i i
    cases q : Py.blsD ds with
    | none => rw [q] at e; cases e
    | some ms =>
      rw [q] at e
      simp at e
      subst e
      rw [Reps.toBls h2 q]
      simp [Rep] at h1
      simp [h1]
theorem Reps.of_ints {ns : List Int} : Reps K fa W H (ns.map D.int) (ns.map V.int) := by
  induction ns with
  | nil => simp [Reps]
  | cons n r ih => simp only [List.map_cons, Reps]; exact ⟨_, _, rfl, by simp [Rep], ih⟩
end
/-- the heap grows -/
def Grow (H H' : Hp) : Prop := ∀ a o, H a = some o → H' a = some o
theorem Grow.refl {H : Hp} : Grow H H := fun _ _ h => h
theorem Grow.trans {H H1 H2 : Hp} (a : Grow H H1) (b : Grow H1 H2) : Grow H H2 := fun x o h => b x o (a x o h)
theorem Grow.upd {H : Hp} {p : Addr} {o : HO} (h : H p = none) : Grow H (upd H p o) := fun a u e => by rw [upd_ne (ne_of_none e h)]; exact e
theorem Grow.step {H H' : Hp} {W : Addr → Prop} (g : Grow H H') : Step W H W H' := ⟨fun a o h _ => g a o h, fun _ h => .inl h⟩
theorem Grow.ext {H H' : Hp} {ρ : List Addr} {st : Store} (g : Grow H H') : Ext ρ st H ρ st H' := ⟨⟨[], by simp⟩, fun a o h _ => g a o h, fun _ h => .inl h⟩
section
variable {K : Frg} {fa : Nat → Addr} {U : Addr → Prop} {ρ : List Addr} {env : Env} {st : Store} {σ : L2.St} {H H' : Hp}
theorem CellAt.step {W W' : Addr → Prop} {a : Addr} {d : D} (x : Step W H W' H') (e : H' a = H a) (h : CellAt K fa W H a d) : CellAt K fa W' H' a d := by
  cases d with
  | lst ds =>
    obtain ⟨vs, h1, h2⟩ := h
    exact ⟨vs, e.trans h1, x.reps _ _ h2⟩
  | dct ks ds =>
    obtain ⟨vs, h1, h2, h3⟩ := h
    exact ⟨vs, e.trans h1, h2, x.reps _ _ h3⟩
  | _ => exact (show False from h).elim
theorem CellAt.there {W : Addr → Prop} {a : Addr} {d : D} (h : CellAt K fa W H a d) : ∃ o, H a = some o := by
  cases d with
  | lst ds =>
    obtain ⟨vs, h1, h2⟩ := h
    exact ⟨_, h1⟩
  | dct ks ds =>
    obtain ⟨vs, h1, h2, h3⟩ := h
    exact ⟨_, h1⟩
  | _ => exact (show False from h).elim
theorem RelS.at (r : RelS K fa U ρ st H) {i : Nat} {a : Addr} (e : ρ[i]? = some a) : ∃ c, st[i]? = some c ∧ CellAt K fa (Wu U ρ st) H a c.d := by
  have h : i < st.length := by rw [← r.len]; exact (List.getElem?_eq_some_iff.mp e).1
  exact ⟨st[i], by simp [h], r.cell i a _ e (by simp [h])⟩
theorem RelS.wrThere (r : RelS K fa U ρ st H) {a : Addr} (w : Wu U ρ st a) : ∃ o, H a = some o := by
  rcases w with w | ⟨i, c, e1, e2, _⟩
  · exact r.ut a w
  · exact (r.cell i a c e1 e2).there
theorem RelS.grow (r : RelS K fa U ρ st H) (g : Grow H H') : RelS K fa U ρ st H' := ⟨r.len, r.nd, r.ud, fun a u => by obtain ⟨o, ho⟩ := r.ut a u; exact ⟨o, g a o ho⟩, fun i a c e1 e2 => by
  have h := r.cell i a c e1 e2
  obtain ⟨o, ho⟩ := h.there
  exact h.step g.step ((g a o ho).trans ho.symm)⟩
theorem Rel.grow (r : Rel K fa U ρ env st σ H) (g : Grow H H') : Rel K fa U ρ env st σ H' := ⟨r.toRelS.grow g, fun i d e => by
  obtain ⟨v, e1, h⟩ := r.env i d e
  exact ⟨v, e1, g.ext.vrel h⟩⟩
theorem nodup_at {l : List Addr} (h : l.Nodup) {i j : Nat} {a : Addr} (e1 : l[i]? = some a) (e2 : l[j]? = some a) : i = j := by
  obtain ⟨h1, q1⟩ := List.getElem?_eq_some_iff.mp e1
  obtain ⟨h2, q2⟩ := List.getElem?_eq_some_iff.mp e2
  exact (List.getElem_inj h).mp (q1.trans q2.symm)
/-- a cell frozen -/
theorem wr_freeze (nd : ρ.Nodup) {l : Nat} {c : Cell} (e : st[l]? = some c) {a : Addr} : Wr ρ (st.set l ⟨true, c.d⟩) a ↔ Wr ρ st a ∧ ρ[l]? ≠ some a := by
  have hl : l < st.length := (List.getElem?_eq_some_iff.mp e).1
  constructor
  · rintro ⟨i, c', h1, h2, h3⟩
    by_cases q : l = i
    · subst q
      rw [List.getElem?_set_self hl] at h2
      cases h2
      cases h3
    · rw [List.getElem?_set_ne q] at h2
      exact ⟨⟨i, c', h1, h2, h3⟩, fun z => q (nodup_at nd z h1)⟩
  · rintro ⟨⟨i, c', h1, h2, h3⟩, ne⟩
    have q : l ≠ i := fun z => by subst z; exact ne h1
    exact ⟨i, c', h1, by rw [List.getElem?_set_ne q]; exact h2, h3⟩
theorem Rel.freeze (r : Rel K fa U ρ env st σ H) {l : Nat} {c : Cell} (e : st[l]? = some c) : Rel K fa U ρ env (st.set l ⟨true, c.d⟩) σ H ∧ Ext ρ st H ρ (st.set l ⟨true, c.d⟩) H := by
  have ex : Ext ρ st H ρ (st.set l ⟨true, c.d⟩) H := ⟨⟨[], by simp⟩, fun _ _ h _ => h, fun a w => .inl ((wr_freeze r.nd e).mp w).1⟩
  have sp : Step (Wu U ρ st) H (Wu U ρ (st.set l ⟨true, c.d⟩)) H := ex.step
  refine ⟨⟨⟨by rw [List.length_set]; exact r.len, r.nd, r.ud, r.ut, fun i a c' e1 e2 => ?_⟩, fun i d e1 => ?_⟩, ex⟩
  · by_cases q : l = i
    · subst q
      rw [List.getElem?_set_self (List.getElem?_eq_some_iff.mp e).1] at e2
      cases e2
      exact (r.cell l a c e1 e).step sp rfl
    · rw [List.getElem?_set_ne q] at e2
      exact (r.cell i a c' e1 e2).step sp rfl
  · obtain ⟨v, q1, q2⟩ := r.env i d e1
    exact ⟨v, q1, ex.vrel q2⟩
/-- a new object becomes a cell -/
theorem wr_push {c : Cell} {p a : Addr} (len : ρ.length = st.length) : Wr (ρ ++ [p]) (st ++ [c]) a ↔ Wr ρ st a ∨ (a = p ∧ c.fz = false) := by
  constructor
  · rintro ⟨i, c', h1, h2, h3⟩
    by_cases q : i < ρ.length
    · rw [List.getElem?_append_left q] at h1
      rw [List.getElem?_append_left (by omega)] at h2
      exact .inl ⟨i, c', h1, h2, h3⟩
    · rw [List.getElem?_append_right (by omega)] at h1
      rw [List.getElem?_append_right (by omega), ← len] at h2
      cases k : i - ρ.length with
      | zero =>
        rw [k] at h1 h2
        simp at h1 h2
        subst h1 h2
        exact .inr ⟨rfl, h3⟩
      | succ n => rw [k] at h1; simp at h1
  · rintro (⟨i, c', h1, h2, h3⟩ | ⟨rfl, h3⟩)
    · have q : i < ρ.length := (List.getElem?_eq_some_iff.mp h1).1
      exact ⟨i, c', by rw [List.getElem?_append_left q]; exact h1, by rw [List.getElem?_append_left (by omega)]; exact h2, h3⟩
    · exact ⟨ρ.length, c, by simp, by rw [len]; simp, h3⟩
theorem Rel.push (r : Rel K fa U ρ env st σ H) {p : Addr} {o : HO} {d : D} (hp : H p = none) (hc : ∀ W' H', Step (Wu U ρ st) H W' H' → H' p = some o → CellAt K fa W' H' p d) :
    Rel K fa U (ρ ++ [p]) env (st ++ [⟨false, d⟩]) σ (upd H p o) ∧ Ext ρ st H (ρ ++ [p]) (st ++ [⟨false, d⟩]) (upd H p o) := by
  have g : Grow H (upd H p o) := Grow.upd hp
  have ex : Ext ρ st H (ρ ++ [p]) (st ++ [⟨false, d⟩]) (upd H p o) := ⟨⟨[p], rfl⟩, fun a u h _ => g a u h, fun a w => by
    rcases (wr_push r.len).mp w with q | ⟨rfl, _⟩
    · exact .inl q
    · exact .inr hp⟩
  have np : ∀ a ∈ ρ, a ≠ p := fun a ha z => by
    obtain ⟨i, hi⟩ := List.getElem?_of_mem ha
    obtain ⟨c, _, h⟩ := r.toRelS.at hi
    obtain ⟨u, hu⟩ := h.there
    rw [z, hp] at hu
    cases hu
  have sp : Step (Wu U ρ st) H (Wu U (ρ ++ [p]) (st ++ [⟨false, d⟩])) (upd H p o) := ex.step
  refine ⟨⟨⟨by simp [r.len], ?_, fun a u => ?_, fun a u => by obtain ⟨q, hq⟩ := r.ut a u; exact ⟨q, g a q hq⟩, fun i a c e1 e2 => ?_⟩, fun i d' e1 => ?_⟩, ex⟩
  · rw [List.nodup_append]
    exact ⟨r.nd, by simp, fun a ha b hb => by simp at hb; subst hb; exact np a ha⟩
  · obtain ⟨q, hq⟩ := r.ut a u
    simp only [List.mem_append, List.mem_singleton, not_or]
    exact ⟨r.ud a u, fun z => by subst z; rw [hp] at hq; cases hq⟩
  · by_cases q : i < ρ.length
    · rw [List.getElem?_append_left q] at e1
      rw [List.getElem?_append_left (by have := r.len; omega)] at e2
      have h := r.cell i a c e1 e2
      exact h.step sp (upd_ne (np a (List.mem_of_getElem? e1)))
    · rw [List.getElem?_append_right (by omega)] at e1
      rw [List.getElem?_append_right (by have := r.len; omega), ← r.len] at e2
      cases k : i - ρ.length with
      | succ n => rw [k] at e1; simp at e1
      | zero =>
        rw [k] at e1 e2
        simp at e1 e2
        subst e1 e2
        exact hc _ _ sp upd_same
  · obtain ⟨v, q1, q2⟩ := r.env i d' e1
    exact ⟨v, q1, ex.vrel q2⟩
/-- a cell written -/
theorem wr_set {i : Nat} {d : D} (e : st[i]? = some ⟨false, d⟩) {d' : D} {a : Addr} : Wr ρ (st.set i ⟨false, d'⟩) a ↔ Wr ρ st a := by
  have hl : i < st.length := (List.getElem?_eq_some_iff.mp e).1
  constructor
  · rintro ⟨j, c', h1, h2, h3⟩
    by_cases q : i = j
    · subst q
      exact ⟨i, _, h1, e, rfl⟩
    · rw [List.getElem?_set_ne q] at h2
      exact ⟨j, c', h1, h2, h3⟩
  · rintro ⟨j, c', h1, h2, h3⟩
    by_cases q : i = j
    · subst q
      exact ⟨i, _, h1, List.getElem?_set_self hl, rfl⟩
    · exact ⟨j, c', h1, by rw [List.getElem?_set_ne q]; exact h2, h3⟩
theorem Rel.write (r : Rel K fa U ρ env st σ H) {i : Nat} {a : Addr} {d d' : D} {o : HO} (ea : ρ[i]? = some a) (e : st[i]? = some ⟨false, d⟩)
    (hc : ∀ W' H', Step (Wu U ρ st) H W' H' → H' a = some o → CellAt K fa W' H' a d') :
    Rel K fa U ρ env (st.set i ⟨false, d'⟩) σ (upd H a o) ∧ Ext ρ st H ρ (st.set i ⟨false, d'⟩) (upd H a o) := by
  have w : Wr ρ st a := ⟨i, _, ea, e, rfl⟩
  have ex : Ext ρ st H ρ (st.set i ⟨false, d'⟩) (upd H a o) := ⟨⟨[], by simp⟩, fun b u h nw => by
    have hb : b ≠ a := fun z => nw (z ▸ w)
    rw [upd_ne hb]; exact h, fun b hb => .inl ((wr_set e).mp hb)⟩
  have sp := ex.step (U := U)
  refine ⟨⟨⟨by rw [List.length_set]; exact r.len, r.nd, r.ud, fun b u => ?_, fun j b c e1 e2 => ?_⟩, fun j d'' e1 => ?_⟩, ex⟩
  · have hb : b ≠ a := fun z => r.ud b u (z ▸ List.mem_of_getElem? ea)
    obtain ⟨q, hq⟩ := r.ut b u
    exact ⟨q, by rw [upd_ne hb]; exact hq⟩
  · by_cases q : i = j
    · subst q
      rw [List.getElem?_set_self (List.getElem?_eq_some_iff.mp e).1] at e2
      cases e2
      rw [ea] at e1
      cases e1
      exact hc _ _ sp upd_same
    · rw [List.getElem?_set_ne q] at e2
      have hb : b ≠ a := fun z => q (nodup_at r.nd ea (z ▸ e1))
      exact (r.cell j b c e1 e2).step sp (upd_ne hb)
  · obtain ⟨v, q1, q2⟩ := r.env j d'' e1
    exact ⟨v, q1, ex.vrel q2⟩
/-- the cells behind the first n forgotten -/
theorem wr_take {n : Nat} {t : List Addr} (hn : ρ.length = n) {a : Addr} (h : Wr ρ (st.take n) a) : Wr (ρ ++ t) st a := by
  obtain ⟨i, c, h1, h2, h3⟩ := h
  have hi : i < ρ.length := (List.getElem?_eq_some_iff.mp h1).1
  refine ⟨i, c, by rw [List.getElem?_append_left hi]; exact h1, ?_, h3⟩
  rw [List.getElem?_take_of_lt (by omega)] at h2
  exact h2
theorem RelS.take {n : Nat} {t : List Addr} (r : RelS K fa U (ρ ++ t) st H) (hn : ρ.length = n) : RelS K fa U ρ (st.take n) H ∧ Step (Wu U (ρ ++ t) st) H (Wu U ρ (st.take n)) H := by
  have sp : Step (Wu U (ρ ++ t) st) H (Wu U ρ (st.take n)) H := ⟨fun _ _ h _ => h, fun a w => .inl (w.elim .inl fun w => .inr (wr_take hn w))⟩
  have hl := r.len
  rw [List.length_append] at hl
  refine ⟨⟨by rw [List.length_take]; omega, (List.nodup_append.mp r.nd).1, fun a u z => r.ud a u (List.mem_append_left _ z), r.ut, fun i a c e1 e2 => ?_⟩, sp⟩
  have hi : i < ρ.length := (List.getElem?_eq_some_iff.mp e1).1
  rw [List.getElem?_take_of_lt (by omega)] at e2
  exact (r.cell i a c (by rw [List.getElem?_append_left hi]; exact e1) e2).step sp rfl
theorem Rel.take {n : Nat} {t : List Addr} (r : Rel K fa U (ρ ++ t) env st σ H) (hn : ρ.length = n) (he : ∀ (i : Nat) (l : Nat), env[i]? = some (some (.loc l)) → l < n) : Rel K fa U ρ env (st.take n) σ H := by
  obtain ⟨rs, sp⟩ := r.toRelS.take hn
  refine ⟨rs, fun i d e => ?_⟩
  obtain ⟨v, q1, q2⟩ := r.env i d e
  refine ⟨v, q1, ?_⟩
  cases d with
  | loc l =>
    obtain ⟨a, e1, e2⟩ := q2
    have := he i l e
    exact ⟨a, e1, by rwa [List.getElem?_append_left (by omega)] at e2⟩
  | _ => exact sp.rep _ _ q2
/-- what a value is worth now -/
def Cont (K : Frg) (fa : Nat → Addr) (W : Addr → Prop) (H : Hp) (d : D) (v : V) : Prop := match d with
  | .lst ds => ∃ a vs, v = .ref a ∧ H a = some (.lst vs) ∧ Reps K fa W H ds vs
  | .dct ks ds => ∃ a kvs, v = .ref a ∧ H a = some (.dK kvs) ∧ ks.map keyOf = kvs.map (fun p => some p.1) ∧ Reps K fa W H ds (kvs.map (·.2))
  | d => Rep K fa W H d v
theorem Cont.of {W : Addr → Prop} {d : D} {v : V} (h : Rep K fa W H d v) : Cont K fa W H d v := by
  cases d with
  | lst ds => simp only [Rep] at h; obtain ⟨a, vs, e, t, r⟩ := h; exact ⟨a, vs, e, t.2, r⟩
  | dct ks ds => simp only [Rep] at h; obtain ⟨a, vs, e, t, k, r⟩ := h; exact ⟨a, vs, e, t.2, k, r⟩
  | _ => exact h
theorem RelS.cont (r : RelS K fa U ρ st H) {d : D} {v : V} (h : VRel K fa ρ (Wu U ρ st) H d v) : Cont K fa (Wu U ρ st) H (resolve st d) v := by
  cases d with
  | loc l =>
    obtain ⟨a, rfl, e⟩ := h
    obtain ⟨c, e2, hc⟩ := r.at e
    simp only [resolve, e2]
    cases q : c.d with
    | lst ds => rw [q] at hc; obtain ⟨vs, h1, h2⟩ := hc; exact ⟨a, vs, rfl, h1, h2⟩
    | dct ks ds => rw [q] at hc; obtain ⟨vs, h1, h2, h3⟩ := hc; exact ⟨a, vs, rfl, h1, h2, h3⟩
    | _ => rw [q] at hc; exact (show False from hc).elim
  | _ => exact Cont.of h
theorem Cont.seq {W : Addr → Prop} {d : D} {v : V} {ds : List D} (h : Cont K fa W H d v) (e : d = .lst ds ∨ d = .tup ds) : ∃ a vs, v = .ref a ∧ (SqL K H a vs ∨ SqT K H a vs) ∧ Reps K fa W H ds vs := by
  rcases e with rfl | rfl
  · obtain ⟨a, vs, e, h1, h2⟩ := h
    exact ⟨a, vs, e, .inl (.of h1), h2⟩
  · simp only [Cont, Rep] at h
    obtain ⟨a, vs, e, h1, h2⟩ := h
    refine ⟨a, vs, e, .inr ?_, h2⟩
    rcases h1 with ⟨_, h1⟩ | h1
    · exact .inl h1
    · exact h1 H
theorem RAt.sq {W : Addr → Prop} {a : Addr} {vs : List V} (h : RAt K W H a vs) : SqL K H a vs := by
  rcases h with ⟨_, h1⟩ | h1
  · exact .inl h1
  · exact h1 H
theorem TAt.sq {W : Addr → Prop} {a : Addr} {vs : List V} (h : TAt K W H a vs) : SqT K H a vs := by
  rcases h with ⟨_, h1⟩ | h1
  · exact .inl h1
  · exact h1 H
end
end Py
end
section
set_option Elab.async false
set_option linter.all false
set_option maxRecDepth 100000
namespace Py
open PySem L2

/-- what the program has: the defs by number, the classes of exceptions, the module's constants -/
structure Tab where
  T : List Fn
  nm : List Str
  fa : Nat → Addr
  fd : Nat → FuncData
  ps : Nat → List Str
  ca : Nat → Addr
  con : List (Str × D)
  blt : List Str
/-- an exception by its datum -/
def ExcV (K : Frg) (B : Tab) (W : Addr → Prop) (H : Hp) (e : D) (cls : Value) (dd : Option Addr) : Prop :=
  ∃ (c : Nat) (x : D) (d : Addr) (v : V), e = .tup [.int c, x] ∧ cls = .ref (B.ca c) ∧ dd = some d ∧ H d = some (.xd [("at", v)]) ∧ Rep K B.fa W H x v
section
variable (K : Frg) (B : Tab) (U : Addr → Prop) (Wx : WX) (σ : L2.St) (ρ : List Addr) (st : Store) (H : Hp)
def Post {α : Type} (o : Out α) (C : α → List Addr → Store → Hp → Prop) : Prop :=
  match o with
  | .ok a st' => ∀ ρ' H', RelS K B.fa U ρ' st' H' → Ext ρ st H ρ' st' H' → C a ρ' st' H'
  | .exc e st' => ∀ ρ' H' cls dd, RelS K B.fa U ρ' st' H' → Ext ρ st H ρ' st' H' → ExcV K B (Wu U ρ' st') H' e cls dd → Wx cls dd σ H'
  | .stuck => False
end
section
variable {K : Frg} {B : Tab} {U : Addr → Prop} {Wx : WX} {σ : L2.St} {ρ ρ1 : List Addr} {env : Env} {st st1 : Store} {H H1 : Hp}
theorem Post.mono {α : Type} {o : Out α} {C C' : α → List Addr → Store → Hp → Prop} (h : Post K B U Wx σ ρ st H o C) (m : ∀ a ρ' st' H', o = .ok a st' → RelS K B.fa U ρ' st' H' → Ext ρ st H ρ' st' H' → C a ρ' st' H' → C' a ρ' st' H') : Post K B U Wx σ ρ st H o C' := by
  cases o with
  | ok a st' => exact fun ρ' H' r x => m a ρ' st' H' rfl r x (h ρ' H' r x)
  | exc e st' => exact h
  | stuck => exact h
theorem Post.shift {α : Type} {o : Out α} {C : α → List Addr → Store → Hp → Prop} (x : Ext ρ st H ρ1 st1 H1) (h : Post K B U Wx σ ρ st H o C) : Post K B U Wx σ ρ1 st1 H1 o C := by
  cases o with
  | ok a st' => exact fun ρ' H' r y => h ρ' H' r (x.trans y)
  | exc e st' => exact fun ρ' H' cls dd r y => h ρ' H' cls dd r (x.trans y)
  | stuck => exact h
/-- the first of two -/
theorem Post.bind {α β : Type} {o : Out α} {g : α → Store → Out β} {C : β → List Addr → Store → Hp → Prop} (h : Post K B U Wx σ ρ st H (o.bind g) C) :
    Post K B U Wx σ ρ st H o (fun a ρ' st' H' => Post K B U Wx σ ρ' st' H' (g a st') C) := by
  cases o with
  | ok a st' => exact fun ρ' H' r x => Post.shift x h
  | exc e st' => exact h
  | stuck => exact h
theorem Post.opt {α : Type} {o : Option α} {C : α → List Addr → Store → Hp → Prop} (h : Post K B U Wx σ ρ st H (opt st o) C) (r : RelS K B.fa U ρ st H) :
    ∃ a, o = some a ∧ ∀ ρ' H', RelS K B.fa U ρ' st H' → Ext ρ st H ρ' st H' → C a ρ' st H' := by
  cases o with
  | none => exact (show False from h).elim
  | some a => exact ⟨a, rfl, h⟩
theorem Rel.ext (r : Rel K B.fa U ρ env st σ H) (s : RelS K B.fa U ρ1 st1 H1) (x : Ext ρ st H ρ1 st1 H1) : Rel K B.fa U ρ1 env st1 σ H1 := ⟨s, fun i d e => by
  obtain ⟨v, q1, q2⟩ := r.env i d e
  exact ⟨v, q1, x.vrel q2⟩⟩
end

/-! ### readings -/
section
variable (K : Frg) (B : Tab) (Wx : WX) (cf : CallF)
abbrev CE1 (U : Addr → Prop) (Q : VK) : D → List Addr → Store → Hp → Prop := fun d ρ' st' H' => ∀ v, VRel K B.fa ρ' (Wu U ρ' st') H' d v → Q v H'
def RE (ir : Ex) : TE := fun σ H Q => ∃ U ρ env st, Rel K B.fa U ρ env st σ H ∧ Post K B U Wx σ ρ st H (evE cf ir env st) (CE1 K B U Q)
/-- a value that is a new object: it may become a cell -/
def RN (ir : Ex) : TE := fun σ H Q => ∃ U ρ env st, Rel K B.fa U ρ env st σ H ∧ Post K B U Wx σ ρ st H ((evE cf ir env st).bind newD)
  (fun d ρ' st' H' => ∀ p H2, Rel K B.fa U (ρ' ++ [p]) env (st' ++ [⟨false, d⟩]) σ H2 → Ext ρ' st' H' (ρ' ++ [p]) (st' ++ [⟨false, d⟩]) H2 → Q (.ref p) H2)
def RA (ir : Ex) : TA := fun σ H Q => ∃ U ρ env st, Rel K B.fa U ρ env st σ H ∧ Post K B U Wx σ ρ st H (evL cf ir env st)
  (fun ds ρ' st' H' => ∀ vs, VRels K B.fa ρ' (Wu U ρ' st') H' ds vs → Q vs H')
def RT (ir : Ex) : TT := fun σ H Q => ∃ U ρ env st, Rel K B.fa U ρ env st σ H ∧ Post K B U Wx σ ρ st H (evE cf ir env st)
  (fun d _ st' H' => ∃ b, truth (resolve st' d) = some b ∧ Q b H')
end
theorem _root_.L2.PE.imp {X : Cx} {e : Expr} {t t' : TE} (h : PE X e t) (i : ∀ σ H Q, t' σ H Q → t σ H Q) : PE X e t' := ⟨fun pins s σ H Q I q => h.run pins s σ H Q I (i σ H Q q)⟩
theorem _root_.L2.PT.imp {X : Cx} {e : Expr} {t t' : TT} (h : PT X e t) (i : ∀ σ H Q, t' σ H Q → t σ H Q) : PT X e t' := ⟨fun pins s σ H Q I q => h.run pins s σ H Q I (i σ H Q q)⟩
theorem _root_.L2.PW.imp {X : Cx} {e : Expr} {t t' : TT} (h : PW X e t) (i : ∀ σ H Q, t' σ H Q → t σ H Q) : PW X e t' := ⟨fun w pins s σ H Q I q => h.run w pins s σ H Q I (i σ H Q q)⟩
theorem _root_.L2.PA.imp {X : Cx} {e : List Expr} {t t' : TA} (h : PA X e t) (i : ∀ σ H Q, t' σ H Q → t σ H Q) : PA X e t' := ⟨fun p pins s σ H Q I q => h.run p pins s σ H Q I (i σ H Q q)⟩
theorem _root_.L2.PS.imp {X : Cx} {e : Stmt} {t t' : TS} (h : PS X e t) (i : ∀ D σ H, t' D σ H → t D σ H) : PS X e t' := ⟨fun pins s σ H D I q => h.run pins s σ H D I (i D σ H q)⟩
theorem _root_.L2.PSs.imp {X : Cx} {e : List Stmt} {t t' : TS} (h : PSs X e t) (i : ∀ D σ H, t' D σ H → t D σ H) : PSs X e t' := ⟨fun pins s σ H D I q => h.run pins s σ H D I (i D σ H q)⟩

section
variable {K : Frg} {B : Tab} {Wx : WX} {cf : CallF} {X : Cx} {σ : L2.St} {H : Hp}
/-- the first part evaluated -/
theorem RE.first {β : Type} {ir : Ex} {U : Addr → Prop} {ρ : List Addr} {env : Env} {st : Store} {g : D → Store → Out β} {C : β → List Addr → Store → Hp → Prop} {R : VK}
    (r : Rel K B.fa U ρ env st σ H) (h : Post K B U Wx σ ρ st H ((evE cf ir env st).bind g) C)
    (k : ∀ d ρ1 st1 H1 v, Rel K B.fa U ρ1 env st1 σ H1 → Ext ρ st H ρ1 st1 H1 → VRel K B.fa ρ1 (Wu U ρ1 st1) H1 d v → Post K B U Wx σ ρ1 st1 H1 (g d st1) C → R v H1) : RE K B Wx cf ir σ H R :=
  ⟨U, ρ, env, st, r, h.bind.mono fun d ρ1 st1 H1 _ s x q v hv => k d ρ1 st1 H1 v (r.ext s x) x hv q⟩
theorem RA.first {β : Type} {ir : Ex} {U : Addr → Prop} {ρ : List Addr} {env : Env} {st : Store} {g : List D → Store → Out β} {C : β → List Addr → Store → Hp → Prop} {R : List V → Hp → Prop}
    (r : Rel K B.fa U ρ env st σ H) (h : Post K B U Wx σ ρ st H ((evL cf ir env st).bind g) C)
    (k : ∀ d ρ1 st1 H1 v, Rel K B.fa U ρ1 env st1 σ H1 → Ext ρ st H ρ1 st1 H1 → VRels K B.fa ρ1 (Wu U ρ1 st1) H1 d v → Post K B U Wx σ ρ1 st1 H1 (g d st1) C → R v H1) : RA K B Wx cf ir σ H R :=
  ⟨U, ρ, env, st, r, h.bind.mono fun d ρ1 st1 H1 _ s x q v hv => k d ρ1 st1 H1 v (r.ext s x) x hv q⟩
theorem RT.first {β : Type} {ir : Ex} {U : Addr → Prop} {ρ : List Addr} {env : Env} {st : Store} {g : Bool → Store → Out β} {C : β → List Addr → Store → Hp → Prop} {R : Bool → Hp → Prop}
    (r : Rel K B.fa U ρ env st σ H) (h : Post K B U Wx σ ρ st H ((evE cf ir env st).bind fun x st => match truth (resolve st x) with | some b => g b st | .none => .stuck) C)
    (k : ∀ b ρ1 st1 H1, Rel K B.fa U ρ1 env st1 σ H1 → Ext ρ st H ρ1 st1 H1 → Post K B U Wx σ ρ1 st1 H1 (g b st1) C → R b H1) : RT K B Wx cf ir σ H R :=
  ⟨U, ρ, env, st, r, h.bind.mono fun d ρ1 st1 H1 _ s x q => by
    cases e : truth (resolve st1 d) with
    | none => rw [e] at q; exact (show False from q).elim
    | some b => rw [e] at q; exact ⟨b, rfl, k b ρ1 st1 H1 (r.ext s x) x q⟩⟩
/-- a new object that becomes no cell -/
theorem RN.to {ir : Ex} {e : Expr} (h : PE X e (RN K B Wx cf ir)) (hd : ∀ env st d st', evE cf ir env st = .ok d st' → ∃ l, d = .lst l ∨ ∃ m, d = .dct l m) : PE X e (RE K B Wx cf ir) := by
  refine h.imp fun σ H Q ⟨U, ρ, env, st, r, q⟩ => ⟨U, ρ, env, st, r, ?_⟩
  cases e' : evE cf ir env st with
  | stuck => rw [e'] at q; exact q
  | exc a b => rw [e'] at q; exact q
  | ok d st' =>
  rw [e'] at q
  have hnew : newD d st' = .ok d st' := by
    obtain ⟨l, rfl | ⟨m, rfl⟩⟩ := hd env st d st' e' <;> rfl
  show Post K B U Wx σ ρ st H (newD d st') _
  rw [hnew]
  intro ρ' H' s x p H2 r2 x2
  have hl : ρ'.length = st'.length := s.len
  have hn : ∀ (i : Nat) (l : Nat), env[i]? = some (some (.loc l)) → l < ρ'.length := fun i l hi => by
    obtain ⟨v, _, a, _, q2⟩ := (r.ext s x).env i _ hi
    exact (List.getElem?_eq_some_iff.mp q2).1
  have r3 := r2.take (n := ρ'.length) rfl hn
  have t : (st' ++ [(⟨false, d⟩ : Cell)]).take ρ'.length = st' := by rw [hl]; simp
  rw [t] at r3
  have sp := (r2.toRelS.take (n := ρ'.length) rfl).2
  rw [t] at sp
  obtain ⟨l, hd⟩ := hd env st d st' e'
  have nw : ¬ Wu U ρ' st' p := fun w => by
    rcases w with w | w
    · exact r2.ud p w (by simp)
    obtain ⟨i, c, h1, h2, h3⟩ := w
    have hi := (List.getElem?_eq_some_iff.mp h1).1
    have := nodup_at r2.nd (i := i) (j := ρ'.length) (a := p) (by rw [List.getElem?_append_left hi]; exact h1) (by simp)
    omega
  have c := r2.cell ρ'.length p ⟨false, d⟩ (by simp) (by rw [hl]; simp)
  refine q ρ' H2 r3.toRelS (x.trans ⟨⟨[], by simp⟩, fun a o ha hw => x2.keep a o ha hw, fun a w => .inl w⟩) _ ?_
  refine VRel.of ?_
  rcases hd with rfl | ⟨m, rfl⟩
  · obtain ⟨vs, h1, h2⟩ := c
    simp only [Rep]
    exact ⟨p, vs, rfl, ⟨nw, h1⟩, sp.reps _ _ h2⟩
  · obtain ⟨vs, h1, h2, h3⟩ := c
    simp only [Rep]
    exact ⟨p, vs, rfl, ⟨nw, h1⟩, h2, sp.reps _ _ h3⟩
end
end Py
end
section
set_option Elab.async false
set_option linter.all false
set_option maxRecDepth 100000
namespace Py
open PySem L2
/-! ### operators on values -/
/-- f is what r gives -/
def OpOK (K : Frg) (fa : Nat → Addr) (f : D → D → Option D) (r : R2) : Prop :=
  ∀ (W : Addr → Prop) (H : Hp) (x y : D) (v1 v2 : V) (d : D) (Q : VK), (∀ a, W a → ∃ o, H a = some o) → Cont K fa W H x v1 → Cont K fa W H y v2 → f x y = some d →
    (∀ H' v, Grow H H' → Rep K fa W H' d v → Q v H') → r v1 v2 H Q
/-- .. where it is a new list -/
def OpNew (K : Frg) (fa : Nat → Addr) (f : D → D → Option D) (r : R2) : Prop :=
  ∀ (W : Addr → Prop) (H : Hp) (x y : D) (v1 v2 : V) (ds : List D) (Q : VK), Cont K fa W H x v1 → Cont K fa W H y v2 → f x y = some (.lst ds) →
    (∀ p vs, H p = none → Reps K fa W H ds vs → Q (.ref p) (upd H p (.lst vs))) → r v1 v2 H Q
section
variable {K : Frg} {fa : Nat → Addr} {W : Addr → Prop} {H H' : Hp} {d : D} {v : V}
theorem nw_new {p : Addr} (hw : ∀ a, W a → ∃ o, H a = some o) (hp : H p = none) : ¬ W p := fun w => by
  obtain ⟨o, ho⟩ := hw p w
  rw [hp] at ho
  cases ho
theorem rep_tup_new {ds : List D} {vs : List V} {p : Addr} (hw : ∀ a, W a → ∃ o, H a = some o) (hp : H p = none) (h : Reps K fa W H ds vs) : Rep K fa W (upd H p (.tup vs)) (.tup ds) (.ref p) := by
  simp only [Rep]
  exact ⟨p, vs, rfl, .inl ⟨nw_new hw hp, .inl upd_same⟩, (Grow.upd hp).step.reps _ _ h⟩
theorem rep_lst_new {ds : List D} {vs : List V} {p : Addr} (hw : ∀ a, W a → ∃ o, H a = some o) (hp : H p = none) (h : Reps K fa W H ds vs) : Rep K fa W (upd H p (.lst vs)) (.lst ds) (.ref p) := by
  simp only [Rep]
  exact ⟨p, vs, rfl, ⟨nw_new hw hp, upd_same⟩, (Grow.upd hp).step.reps _ _ h⟩
theorem cint {i : Int} (h : Cont K fa W H (.int i) v) : v = .int i := by simpa [Cont, Rep] using h
theorem cstr {s : List Nat} (h : Cont K fa W H (.str s) v) : v = .str ⟨s.toArray⟩ := by simpa [Cont, Rep] using h
theorem cbl {b : Bool} (h : Cont K fa W H (.bl b) v) : v = .bl b := by simpa [Cont, Rep] using h
theorem ctup {ds : List D} (h : Cont K fa W H (.tup ds) v) : ∃ a vs, v = .ref a ∧ TAt K W H a vs ∧ Reps K fa W H ds vs := by simpa [Cont, Rep] using h
theorem clst {ds : List D} (h : Cont K fa W H (.lst ds) v) : ∃ a vs, v = .ref a ∧ H a = some (.lst vs) ∧ Reps K fa W H ds vs := by simpa [Cont] using h
theorem sz : sizeMax = sizeLine := by rw [sizeLine_eq]; rfl
theorem rep_int {i : Int} : Rep K fa W H (.int i) (.int i) := by simp [Rep]
theorem rep_bl {i : Bool} : Rep K fa W H (.bl i) (.bl i) := by simp [Rep]
theorem rep_non : Rep K fa W H .none .non := by simp [Rep]
theorem rep_str {s : List Nat} : Rep K fa W H (.str s) (.str ⟨s.toArray⟩) := by simp [Rep]
theorem ilt_iff {a b : Int} : ilt a b = decide (a < b) := by
  cases a <;> cases b <;> simp only [ilt]
  · rename_i a b
    rw [Bool.eq_iff_iff]; simp [Nat.blt]; omega
  · simp; omega
  · simp; omega
  · rename_i a b
    rw [Bool.eq_iff_iff]; simp [Nat.blt]; omega
theorem ile_iff {a b : Int} : ile a b = decide (a ≤ b) := by
  cases a <;> cases b <;> simp only [ile]
  · rename_i a b
    rw [Bool.eq_iff_iff]; simp
  · simp; omega
  · simp; omega
  · rename_i a b
    rw [Bool.eq_iff_iff]; simp; omega
theorem ieq_iff {a b : Int} : ieq a b = decide (a = b) := by
  cases a <;> cases b <;> simp only [ieq]
  · rename_i a b
    rw [Bool.eq_iff_iff]; simp; omega
  · simp
  · simp
  · rename_i a b
    rw [Bool.eq_iff_iff]; simp
theorem sml_iff {a : Int} : sml a = true ↔ -(2 ^ 64) < a ∧ a < 2 ^ 64 := by
  have e : p64 = 2 ^ 64 := by decide
  simp [sml, ilt_iff, e]
theorem str_app (a b : List Nat) : (⟨a.toArray⟩ : Str) ++ (⟨b.toArray⟩ : Str) = ⟨(a ++ b).toArray⟩ := by
  show (⟨a.toArray ++ b.toArray⟩ : Str) = _
  simp
theorem str_len (a : List Nat) : (⟨a.toArray⟩ : Str).length = a.length := by
  show a.toArray.size = _
  simp
def rAddD (K : Frg) : R2 := fun x y H Q => rI0 (fun i j => .int (i + j)) x y H Q ∨ (∃ i j, x = .str i ∧ y = .str j ∧ i.length + j.length ≤ sizeLine ∧ Q (.str (i ++ j)) H) ∨ rCatA K x y H Q ∨ rCat x y H Q
theorem op_addD {X : Cx} : OpR X (binaryOp .Add) (rAddD X.K) := op_add.or (op_add_str.or (op_catA.or op_cat))
theorem ok_add : OpOK K fa (binD .add) (rAddD K) := by
  intro W H x y v1 v2 d Q hw h1 h2 e q
  cases x <;> cases y <;> simp only [binD, binI, Option.map, reduceCtorEq] at e
  · rename_i i j
    cases e
    rw [cint h1, cint h2]
    exact .inl ⟨i, j, rfl, rfl, q _ _ Grow.refl rep_int⟩
  · rename_i a b
    split at e <;> cases e
    rename_i hz
    rw [cstr h1, cstr h2]
    refine .inr (.inl ⟨_, _, rfl, rfl, by rw [str_len, str_len, ← sz]; exact hz, ?_⟩)
    rw [str_app]
    exact q _ _ Grow.refl rep_str
  · rename_i a b
    split at e <;> cases e
    rename_i hz
    obtain ⟨p, vs, rfl, t1, r1⟩ := ctup h1
    obtain ⟨p2, vs2, rfl, t2, r2⟩ := ctup h2
    have l1 := r1.length
    have l2 := r2.length
    refine .inr (.inr (.inl ⟨p, p2, vs, vs2, rfl, rfl, t1.sq, t2.sq, by rw [← sz]; omega, fun hx => ?_, fun hx hy => ?_, fun hx hy p3 hp => ?_⟩))
    · subst hx
      have : a = [] := by cases a <;> simp_all
      subst this
      exact q _ _ Grow.refl (by simpa [Cont] using h2)
    · subst hy
      have : b = [] := by cases b <;> simp_all
      subst this
      refine q _ _ Grow.refl ?_
      simpa [Cont] using h1
    · exact q _ _ (Grow.upd hp) (rep_tup_new hw hp (r1.append r2))
  · rename_i a b
    split at e <;> cases e
    rename_i hz
    obtain ⟨p, vs, rfl, t1, r1⟩ := clst h1
    obtain ⟨p2, vs2, rfl, t2, r2⟩ := clst h2
    have l1 := r1.length
    have l2 := r2.length
    exact .inr (.inr (.inr ⟨p, p2, vs, vs2, rfl, rfl, t1, t2, by rw [← sz]; omega, fun p3 hp => q _ _ (Grow.upd hp) (rep_lst_new hw hp (r1.append r2))⟩))
theorem new_add : OpNew K fa (binD .add) (rAddD K) := by
  intro W H x y v1 v2 d Q h1 h2 e q
  cases x <;> cases y <;> simp only [binD, binI, Option.map, reduceCtorEq] at e
  · cases e
  · split at e <;> cases e
  · split at e <;> cases e
  · rename_i a b
    split at e <;> cases e
    rename_i hz
    obtain ⟨p, vs, rfl, t1, r1⟩ := clst h1
    obtain ⟨p2, vs2, rfl, t2, r2⟩ := clst h2
    have l1 := r1.length
    have l2 := r2.length
    exact .inr (.inr (.inr ⟨p, p2, vs, vs2, rfl, rfl, t1, t2, by rw [← sz]; omega, fun p3 hp => q _ _ hp (r1.append r2)⟩))
theorem rep_eq : ∀ (k : Nat) (l : List D), rep k l = (List.replicate k l).flatten
  | 0, _ => rfl
  | k + 1, l => by rw [rep, rep_eq k l, List.replicate_succ, List.flatten_cons]
theorem Reps.rep {ds : List D} {vs : List V} (h : Reps K fa W H ds vs) : ∀ k : Nat, Reps K fa W H (Py.rep k ds) (List.replicate k vs).flatten
  | 0 => by simp [Py.rep, Reps]
  | k + 1 => by
    rw [Py.rep, List.replicate_succ, List.flatten_cons]
    exact h.append (Reps.rep h k)
def rMulD (K : Frg) : R2 := fun x y H Q => rI CMul (fun i j => .int (i * j)) x y H Q ∨ rRep x y H Q
theorem op_mulD {X : Cx} : OpR X (binaryOp .Mult) (rMulD X.K) := op_mul.or op_rep
theorem mul_lst {a : List D} {k : Int} {d : D} (e : binD .mul (.lst a) (.int k) = some d) : d = .lst (rep k.toNat a) ∧ -(2 ^ 63) ≤ k ∧ k < 2 ^ 63 ∧ a.length * k.toNat ≤ sizeLine := by
  simp only [binD] at e
  split at e <;> cases e
  rename_i hz
  simp only [Bool.and_eq_true, decide_eq_true_eq] at hz
  rw [← sz]
  exact ⟨rfl, by omega, by omega, hz.1.2⟩
theorem ok_mul : OpOK K fa (binD .mul) (rMulD K) := by
  intro W H x y v1 v2 d Q hw h1 h2 e q
  have e0 := e
  cases x <;> cases y <;> simp only [binD, binI, Option.map, reduceCtorEq] at e
  · rename_i i j
    split at e <;> cases e
    rename_i c hc
    split at hc <;> cases hc
    rename_i hz
    rw [cint h1, cint h2]
    rw [Bool.or_eq_true, sml_iff, sml_iff] at hz
    exact .inl ⟨i, j, rfl, rfl, hz, q _ _ Grow.refl rep_int⟩
  · rename_i a k
    obtain ⟨rfl, c1, c2, c3⟩ := mul_lst (a := a) (k := k) (d := d) e0
    obtain ⟨p, vs, rfl, t1, r1⟩ := clst h1
    rw [cint h2]
    have l1 := r1.length
    exact .inr ⟨p, k, vs, rfl, rfl, t1, c1, c2, by rw [← l1]; exact c3, fun p3 hp => q _ _ (Grow.upd hp) (rep_lst_new hw hp (r1.rep _))⟩
theorem new_mul : OpNew K fa (binD .mul) (rMulD K) := by
  intro W H x y v1 v2 ds Q h1 h2 e q
  have e0 := e
  cases x <;> cases y <;> simp only [binD, binI, Option.map, reduceCtorEq] at e
  · split at e <;> cases e
  · rename_i a k
    obtain ⟨e2, c1, c2, c3⟩ := mul_lst (a := a) (k := k) (d := .lst ds) e0
    cases e2
    obtain ⟨p, vs, rfl, t1, r1⟩ := clst h1
    rw [cint h2]
    have l1 := r1.length
    exact .inr ⟨p, k, vs, rfl, rfl, t1, c1, c2, by rw [← l1]; exact c3, fun p3 hp => q _ _ hp (r1.rep _)⟩
/-- ints alone -/
theorem ok_I {op : BOp} {C : Int → Int → Prop} {g : Int → Int → Int} (hb : ∀ x y d, binD op x y = some d → ∃ i j c, x = .int i ∧ y = .int j ∧ d = .int c ∧ binI op i j = some c) (h : ∀ i j c, binI op i j = some c → C i j ∧ c = g i j) :
    OpOK K fa (binD op) (rI C fun i j => .int (g i j)) := by
  intro W H x y v1 v2 d Q hw h1 h2 e q
  obtain ⟨i, j, c, rfl, rfl, rfl, e'⟩ := hb _ _ _ e
  obtain ⟨hc, rfl⟩ := h i j c e'
  rw [cint h1, cint h2]
  exact ⟨i, j, rfl, rfl, hc, q _ _ Grow.refl rep_int⟩
theorem binD_int {op : BOp} (ho : op ≠ .add ∧ op ≠ .mul) : ∀ x y d, binD op x y = some d → ∃ i j c, x = .int i ∧ y = .int j ∧ d = .int c ∧ binI op i j = some c := by
  intro x y d e
  cases x <;> cases y <;> cases op <;> simp only [binD, reduceCtorEq] at e <;> first
    | (exact absurd rfl ho.1)
    | (exact absurd rfl ho.2)
    | (rename_i i j
       cases e' : binI _ i j with
       | none => rw [e'] at e; cases e
       | some c => rw [e'] at e; cases e; exact ⟨i, j, c, rfl, rfl, rfl, e'⟩)
theorem ok_sub : OpOK K fa (binD .sub) (rI0 fun i j => .int (i - j)) := by
  intro W H x y v1 v2 d Q hw h1 h2 e q
  obtain ⟨i, j, c, rfl, rfl, rfl, e'⟩ := binD_int (by constructor <;> (intro h; cases h)) _ _ _ e
  cases e'
  rw [cint h1, cint h2]
  exact ⟨i, j, rfl, rfl, q _ _ Grow.refl rep_int⟩
theorem i0_of {op : BOp} {g : Int → Int → Int} (ho : op ≠ .add ∧ op ≠ .mul) (h : ∀ i j c, binI op i j = some c → c = g i j) : OpOK K fa (binD op) (rI0 fun i j => .int (g i j)) := by
  intro W H x y v1 v2 d Q hw h1 h2 e q
  obtain ⟨i, j, c, rfl, rfl, rfl, e'⟩ := binD_int ho _ _ _ e
  obtain rfl := h i j c e'
  rw [cint h1, cint h2]
  exact ⟨i, j, rfl, rfl, q _ _ Grow.refl rep_int⟩
theorem ok_fdiv : OpOK K fa (binD .fdiv) (rI CDiv fun i j => .int (i / j)) := ok_I (binD_int (by constructor <;> (intro h; cases h))) fun i j c e => by
  simp only [binI] at e
  split at e <;> cases e
  rename_i h
  rw [Bool.and_eq_true, ilt_iff, ilt_iff, decide_eq_true_eq, decide_eq_true_eq] at h
  exact ⟨h, rfl⟩
theorem ok_mod : OpOK K fa (binD .mod) (rI (fun _ j => 0 < j) fun i j => .int (i % j)) := ok_I (binD_int (by constructor <;> (intro h; cases h))) fun i j c e => by
  simp only [binI] at e
  split at e <;> cases e
  rename_i h
  rw [ilt_iff, decide_eq_true_eq] at h
  exact ⟨h, rfl⟩
theorem cpow {i j : Int} (h : (ile 0 j && ile j 1000 && sml i) = true) : CPow i j := by
  rw [Bool.and_eq_true, Bool.and_eq_true, ile_iff, ile_iff, decide_eq_true_eq, decide_eq_true_eq, sml_iff] at h
  refine ⟨h.1.1, by omega, ?_⟩
  omega
theorem ok_pow : OpOK K fa (binD .pow) (rI CPow fun i j => .int (i ^ j.toNat)) := ok_I (binD_int (by constructor <;> (intro h; cases h))) fun i j c e => by
  simp only [binI] at e
  split at e <;> cases e
  rename_i h
  exact ⟨cpow h, rfl⟩
theorem ok_shl : OpOK K fa (binD .shl) (rI CPow fun i j => .int (i * 2 ^ j.toNat)) := ok_I (binD_int (by constructor <;> (intro h; cases h))) fun i j c e => by
  simp only [binI] at e
  split at e <;> cases e
  rename_i h
  exact ⟨cpow h, rfl⟩
theorem ok_shr : OpOK K fa (binD .shr) (rI (fun _ j => 0 ≤ j) fun i j => .int (i / 2 ^ j.toNat)) := ok_I (binD_int (by constructor <;> (intro h; cases h))) fun i j c e => by
  simp only [binI] at e
  split at e <;> cases e
  rename_i h
  rw [ile_iff, decide_eq_true_eq] at h
  exact ⟨h, rfl⟩
theorem and_nn (a b : Nat) : Builtin.bitAnd (Int.ofNat a) (Int.ofNat b) = Int.ofNat (a &&& b) := by
  exact PyProof.Rows.bitAnd_pp (x := Int.ofNat a) (y := Int.ofNat b) (Int.natCast_nonneg a) (Int.natCast_nonneg b)
theorem or_nn (a b : Nat) : Builtin.bitOr (Int.ofNat a) (Int.ofNat b) = Int.ofNat (a ||| b) := by
  have n1 : ¬ 0 ≤ Builtin.bitNot (Int.ofNat a) := by simp only [Builtin.bitNot]; simp; omega
  have n2 : ¬ 0 ≤ Builtin.bitNot (Int.ofNat b) := by simp only [Builtin.bitNot]; simp; omega
  unfold Builtin.bitOr
  rw [PyProof.Rows.bitAnd_nn n1 n2]
  have nn : ∀ x : Int, Builtin.bitNot (Builtin.bitNot x) = x := fun x => by simp only [Builtin.bitNot]; omega
  rw [nn, nn, nn]
  try rfl
theorem xor_add_and (a b : Nat) : (a ^^^ b) + (a &&& b) = a ||| b := by
  have key : ∀ n a b : Nat, a < 2 ^ n → b < 2 ^ n → (a ^^^ b) + (a &&& b) = a ||| b := by
    intro n
    induction n with
    | zero => intro a b ha hb; have : a = 0 := by omega
              have : b = 0 := by omega
              subst_vars; rfl
    | succ n ih =>
      intro a b ha hb
      have h := ih (a / 2) (b / 2) (by omega) (by omega)
      have e1 : (a ^^^ b) = 2 * (a / 2 ^^^ b / 2) + ((a ^^^ b) % 2) := by rw [← Nat.xor_div_two]; omega
      have e2 : (a &&& b) = 2 * (a / 2 &&& b / 2) + ((a &&& b) % 2) := by rw [← Nat.and_div_two]; omega
      have e3 : (a ||| b) = 2 * (a / 2 ||| b / 2) + ((a ||| b) % 2) := by rw [← Nat.or_div_two]; omega
      have m : (a ^^^ b) % 2 + (a &&& b) % 2 = (a ||| b) % 2 := by
        have x1 := Nat.xor_mod_two_pow (a := a) (b := b) (n := 1)
        have x2 := Nat.and_mod_two_pow (a := a) (b := b) (n := 1)
        have x3 := Nat.or_mod_two_pow (a := a) (b := b) (n := 1)
        simp only [Nat.pow_one] at x1 x2 x3
        rw [x1, x2, x3]
        rcases Nat.mod_two_eq_zero_or_one a with p | p <;> rcases Nat.mod_two_eq_zero_or_one b with q | q <;> simp [p, q]
      omega
  have ha : a < 2 ^ (max a b) := Nat.lt_of_lt_of_le Nat.lt_two_pow_self (Nat.pow_le_pow_right (by decide) (Nat.le_max_left a b))
  have hb : b < 2 ^ (max a b) := Nat.lt_of_lt_of_le Nat.lt_two_pow_self (Nat.pow_le_pow_right (by decide) (Nat.le_max_right a b))
  exact key _ a b ha hb
theorem xor_nn (a b : Nat) : Builtin.bitXor (Int.ofNat a) (Int.ofNat b) = Int.ofNat (a ^^^ b) := by
  unfold Builtin.bitXor
  rw [or_nn, and_nn]
  have := xor_add_and a b
  simp only [Int.ofNat_eq_natCast]
  omega
theorem ok_band : OpOK K fa (binD .band) (rI0 fun i j => .int (Builtin.bitAnd i j)) := i0_of (by constructor <;> (intro h; cases h)) fun i j c e => by
  cases i <;> cases j <;> simp only [binI, band, reduceCtorEq] at e
  cases e
  exact (and_nn _ _).symm
theorem ok_bor : OpOK K fa (binD .bor) (rI0 fun i j => .int (Builtin.bitOr i j)) := i0_of (by constructor <;> (intro h; cases h)) fun i j c e => by
  cases i <;> cases j <;> simp only [binI, bor, reduceCtorEq] at e
  cases e
  exact (or_nn _ _).symm
theorem ok_bxor : OpOK K fa (binD .bxor) (rI0 fun i j => .int (Builtin.bitXor i j)) := i0_of (by constructor <;> (intro h; cases h)) fun i j c e => by
  cases i <;> cases j <;> simp only [binI, bxor, reduceCtorEq] at e
  cases e
  exact (xor_nn _ _).symm
end
end Py
end
section
set_option Elab.async false
set_option linter.all false
set_option maxRecDepth 100000
namespace Py
open PySem L2
/-! ### comparisons -/
mutual
def toPy : D → PyData
  | .none => .none
  | .bl b => .bool b
  | .int i => .int i
  | .str s => .str ⟨s.toArray⟩
  | .tup l => .tuple (toPys l)
  | .lst l => .list (toPys l)
  | _ => .none
def toPys : List D → List PyData
  | [] => []
  | d :: ds => toPy d :: toPys ds
end
theorem toPys_map : ∀ l : List D, toPys l = l.map toPy
  | [] => rfl
  | d :: ds => by rw [toPys, toPys_map ds]; rfl
theorem okD_tup {n : Nat} {l : List D} (h : okD n (.tup l) = true) : ∃ m, n = m + 1 ∧ ∀ d ∈ l, okD m d = true := by
  cases n with
  | zero => simp [okD] at h
  | succ m => exact ⟨m, rfl, by simpa [okD] using h⟩
theorem okD_lst {n : Nat} {l : List D} (h : okD n (.lst l) = true) : ∃ m, n = m + 1 ∧ ∀ d ∈ l, okD m d = true := by
  cases n with
  | zero => simp [okD] at h
  | succ m => exact ⟨m, rfl, by simpa [okD] using h⟩
mutual
theorem ok_lay : ∀ (d : D) (n : Nat), okD n d = true → (toPy d).canLay0 = true ∧ (toPy d).depth ≤ n
  | .none, _, _ => ⟨rfl, Nat.zero_le _⟩
  | .bl _, _, _ => ⟨rfl, Nat.zero_le _⟩
  | .int _, _, _ => ⟨rfl, Nat.zero_le _⟩
  | .str s, n, h => by
    refine ⟨?_, Nat.zero_le _⟩
    have h' : (s.all fun c => Nat.blt c 55296) = true := by cases n <;> simpa [okD] using h
    simp only [toPy, PyData.canLay0, PyData.strOk]
    rw [List.all_eq_true] at h'
    simp only [Array.all_eq_true]
    intro i hi
    have := h' s[i] (List.getElem_mem (by simpa using hi))
    simp [Nat.blt] at this
    simp
    omega
  | .tup l, n, h => by
    obtain ⟨m, rfl, h'⟩ := okD_tup h
    obtain ⟨h1, h2⟩ := ok_lays l m h'
    exact ⟨by simpa [toPy, PyData.canLay0] using h1, by simp [toPy, PyData.depth]; exact h2⟩
  | .lst l, n, h => by
    obtain ⟨m, rfl, h'⟩ := okD_lst h
    obtain ⟨h1, h2⟩ := ok_lays l m h'
    exact ⟨by simpa [toPy, PyData.canLay0] using h1, by simp [toPy, PyData.depth]; exact h2⟩
  | .fn _, n, h => by cases n <;> simp [okD] at h
  | .loc _, n, h => by cases n <;> simp [okD] at h
  | .dct _ _, n, h => by cases n <;> simp [okD] at h
  | .ro _, n, h => by cases n <;> simp [okD] at h
theorem ok_lays : ∀ (l : List D) (n : Nat), (∀ d ∈ l, okD n d = true) → PyData.canLayAll0 (toPys l) = true ∧ PyData.depthAll (toPys l) ≤ n
  | [], _, _ => ⟨rfl, Nat.zero_le _⟩
  | d :: ds, n, h => by
    obtain ⟨h1, h2⟩ := ok_lay d n (h d (by simp))
    obtain ⟨h3, h4⟩ := ok_lays ds n (fun x hx => h x (by simp [hx]))
    exact ⟨by simp [toPys, PyData.canLayAll0, h1, h3], by simp [toPys, PyData.depthAll]; omega⟩
end
theorem seq_iff : ∀ a b : List Nat, seq a b = decide ((⟨a.toArray⟩ : Str) = ⟨b.toArray⟩)
  | [], [] => by simp [seq]
  | [], b :: q => by simp [seq]
  | a :: r, [] => by simp [seq]
  | a :: r, b :: q => by
    rw [seq, seq_iff r q]
    rw [Bool.eq_iff_iff]
    simp
mutual
theorem eqv_eqB : ∀ (a b : D) (n : Nat), okD n a = true → okD n b = true → PyData.eqv (toPy a) (toPy b) = eqB n a b := by
  intro a b n ha hb
  match a, b with
  | .tup l, .tup m =>
    obtain ⟨k, rfl, ha'⟩ := okD_tup ha
    obtain ⟨k', e, hb'⟩ := okD_tup hb
    cases e
    simp only [toPy, PyData.eqv, eqB]
    exact eqvs_eqL l m k ha' hb'
  | .lst l, .lst m =>
    obtain ⟨k, rfl, ha'⟩ := okD_lst ha
    obtain ⟨k', e, hb'⟩ := okD_lst hb
    cases e
    simp only [toPy, PyData.eqv, eqB]
    exact eqvs_eqL l m k ha' hb'
  | .fn _, _ => cases n <;> simp [okD] at ha
  | .loc _, _ => cases n <;> simp [okD] at ha
  | .dct _ _, _ => cases n <;> simp [okD] at ha
  | .ro _, _ => cases n <;> simp [okD] at ha
  | _, .fn _ => cases n <;> simp [okD] at hb
  | _, .loc _ => cases n <;> simp [okD] at hb
  | _, .dct _ _ => cases n <;> simp [okD] at hb
  | _, .ro _ => cases n <;> simp [okD] at hb
  | .none, .none => cases n <;> rfl
  | .none, .bl _ => cases n <;> rfl
  | .none, .int _ => cases n <;> rfl
  | .none, .str _ => cases n <;> rfl
  | .none, .tup _ => cases n <;> rfl
  | .none, .lst _ => cases n <;> rfl
  | .bl _, .none => cases n <;> rfl
  | .bl _, .bl _ => cases n <;> rfl
  | .bl x, .int _ => cases n <;> simp [toPy, PyData.eqv, eqB, ieq_iff] <;> rfl
  | .bl _, .str _ => cases n <;> rfl
  | .bl _, .tup _ => cases n <;> rfl
  | .bl _, .lst _ => cases n <;> rfl
  | .int _, .none => cases n <;> rfl
  | .int _, .bl _ => cases n <;> simp [toPy, PyData.eqv, eqB, ieq_iff] <;> rfl
  | .int _, .int _ => cases n <;> simp [toPy, PyData.eqv, eqB, ieq_iff] <;> rfl
  | .int _, .str _ => cases n <;> rfl
  | .int _, .tup _ => cases n <;> rfl
  | .int _, .lst _ => cases n <;> rfl
  | .str _, .none => cases n <;> rfl
  | .str _, .bl _ => cases n <;> rfl
  | .str _, .int _ => cases n <;> rfl
  | .str x, .str y => cases n <;> simp only [toPy, PyData.eqv, eqB, seq_iff] <;> rw [Bool.eq_iff_iff] <;> simp
  | .str _, .tup _ => cases n <;> rfl
  | .str _, .lst _ => cases n <;> rfl
  | .tup _, .none => cases n <;> rfl
  | .tup _, .bl _ => cases n <;> rfl
  | .tup _, .int _ => cases n <;> rfl
  | .tup _, .str _ => cases n <;> rfl
  | .tup _, .lst _ => cases n <;> rfl
  | .lst _, .none => cases n <;> rfl
  | .lst _, .bl _ => cases n <;> rfl
  | .lst _, .int _ => cases n <;> rfl
  | .lst _, .str _ => cases n <;> rfl
  | .lst _, .tup _ => cases n <;> rfl
theorem eqvs_eqL : ∀ (a b : List D) (n : Nat), (∀ d ∈ a, okD n d = true) → (∀ d ∈ b, okD n d = true) → PyData.eqvAll (toPys a) (toPys b) = eqL (eqB n) a b
  | [], [], _, _, _ => rfl
  | [], _ :: _, _, _, _ => rfl
  | _ :: _, [], _, _, _ => rfl
  | x :: xs, y :: ys, n, ha, hb => by
    simp only [toPys, PyData.eqvAll, eqL]
    rw [eqv_eqB x y n (ha x (by simp)) (hb y (by simp)), eqvs_eqL xs ys n (fun d h => ha d (by simp [h])) (fun d h => hb d (by simp [h]))]
end
section
variable {K : Frg} {fa : Nat → Addr} {W : Addr → Prop} {H : Hp}
mutual
theorem rep_dp : ∀ (d : D) (v : V) (n : Nat), okD n d = true → Rep K fa W H d v → Dp K H v (toPy d)
  | .none, _, _, _, h => by simp [Rep] at h; subst h; exact .non
  | .bl _, _, _, _, h => by simp [Rep] at h; subst h; exact .bl _
  | .int _, _, _, _, h => by simp [Rep] at h; subst h; exact .int _
  | .str _, _, _, _, h => by simp [Rep] at h; subst h; exact .str _
  | .tup l, _, n, o, h => by
    obtain ⟨m, rfl, o'⟩ := okD_tup o
    simp only [Rep] at h
    obtain ⟨a, vs, rfl, t, r⟩ := h
    exact .tup t.sq (reps_dp l vs m o' r)
  | .lst l, _, n, o, h => by
    obtain ⟨m, rfl, o'⟩ := okD_lst o
    simp only [Rep] at h
    obtain ⟨a, vs, rfl, t, r⟩ := h
    exact .lst (.of t.2) (reps_dp l vs m o' r)
  | .fn _, _, n, h, _ => by cases n <;> simp [okD] at h
  | .loc _, _, n, h, _ => by cases n <;> simp [okD] at h
  | .dct _ _, _, n, h, _ => by cases n <;> simp [okD] at h
  | .ro _, _, n, h, _ => by cases n <;> simp [okD] at h
theorem reps_dp : ∀ (l : List D) (vs : List V) (n : Nat), (∀ d ∈ l, okD n d = true) → Reps K fa W H l vs → DpAll K H vs (toPys l)
  | [], _, _, _, h => by simp [Reps] at h; subst h; exact .nil
  | d :: ds, _, n, o, h => by
    simp only [Reps] at h
    obtain ⟨v, r, rfl, h1, h2⟩ := h
    exact .cons (rep_dp d v n (o d (by simp)) h1) (reps_dp ds r n (fun x hx => o x (by simp [hx])) h2)
end
theorem cont_dp {d : D} {v : V} {n : Nat} (o : okD n d = true) (h : Cont K fa W H d v) : Dp K H v (toPy d) := by
  cases d with
  | lst l =>
    obtain ⟨m, rfl, o'⟩ := okD_lst o
    obtain ⟨a, vs, rfl, h1, h2⟩ := h
    exact .lst (.of h1) (reps_dp l vs m o' h2)
  | dct k l => cases n <;> simp [okD] at o
  | _ => exact rep_dp (fa := fa) (W := W) _ _ n o h
theorem ok_shaped {d : D} (o : okD eqDeep d = true) : SeqAt.shaped (toPy d) = true := by
  obtain ⟨h1, h2⟩ := ok_lay d _ o
  simp only [SeqAt.shaped, h1, Bool.true_and, decide_eq_true_eq]
  have : eqDeep = 40 := rfl
  omega
theorem eqD_some {a b : D} {n : Nat} {r : Bool} (h : eqD n a b = some r) : okD n a = true ∧ okD n b = true ∧ r = eqB n a b := by
  unfold eqD at h
  split at h
  · rename_i o
    rw [Bool.and_eq_true] at o
    cases h
    exact ⟨o.1, o.2, rfl⟩
  · cases h
theorem map_bl {o : Option Bool} {d : D} (h : o.map D.bl = some d) : ∃ b, o = some b ∧ d = .bl b := by
  cases o with
  | none => cases h
  | some b => cases h; exact ⟨b, rfl, rfl⟩
theorem ok_eq : OpOK K fa (fun x y => (cmpD .eq x y).map .bl) (rEqD K) := by
  intro W H x y v1 v2 d Q hw h1 h2 e q
  obtain ⟨b, e1, rfl⟩ := map_bl e
  obtain ⟨o1, o2, rfl⟩ := eqD_some (show eqD eqDeep x y = some b from e1)
  exact ⟨_, _, cont_dp o1 h1, cont_dp o2 h2, ok_shaped o1, ok_shaped o2, by rw [eqv_eqB x y eqDeep o1 o2]; exact q _ _ Grow.refl rep_bl⟩
theorem ok_ne : OpOK K fa (fun x y => (cmpD .ne x y).map .bl) (rNeD K) := by
  intro W H x y v1 v2 d Q hw h1 h2 e q
  obtain ⟨b, e1, rfl⟩ := map_bl e
  have e' : (eqD eqDeep x y).map not = some b := e1
  cases e2 : eqD eqDeep x y with
  | none => rw [e2] at e'; cases e'
  | some c =>
    rw [e2] at e'
    cases e'
    obtain ⟨o1, o2, rfl⟩ := eqD_some e2
    exact ⟨_, _, cont_dp o1 h1, cont_dp o2 h2, ok_shaped o1, ok_shaped o2, by rw [eqv_eqB x y eqDeep o1 o2]; exact q _ _ Grow.refl rep_bl⟩
/-- x in a list or tuple -/
def rInG (K : Frg) (neg : Bool) : R2 := fun x y H Q => ∃ d ds, Dp K H x d ∧ (Dp K H y (.list ds) ∨ Dp K H y (.tuple ds)) ∧ d.canLay0 = true ∧ d.depth ≤ 64 ∧ PyData.canLayAll0 ds = true ∧ Q (.bl (if neg then !ds.any (fun z => PyData.eqv z d) else ds.any fun z => PyData.eqv z d)) H
theorem op_inG {X : Cx} (hu : X.A.units + 65 < cLine) : OpR X (compareOp .In) (rInG X.K false) := by
  intro pins s σ H x y v u Q I rx ry h
  obtain ⟨d, ds, hd, he, sd, sz, se, q⟩ := h
  obtain ⟨as, r1⟩ := Dp.reads I d x v hd rx
  have hm : X.A.units + 1 + min (PyData.depthAll ds) d.depth < cLine := by
    have := Nat.min_le_right (PyData.depthAll ds) d.depth
    omega
  rcases he with he | he
  · obtain ⟨bs, r2⟩ := Dp.reads I _ y u he ry
    exact SeqAt.in_list_reads r2 r1 se sd hm ⟨.bl _, H, I, rfl, q⟩
  · obtain ⟨bs, r2⟩ := Dp.reads I _ y u he ry
    exact SeqAt.in_tuple_reads r2 r1 se sd hm ⟨.bl _, H, I, rfl, q⟩
theorem op_notInG {X : Cx} (hu : X.A.units + 65 < cLine) : OpR X (compareOp .NotIn) (rInG X.K true) := by
  intro pins s σ H x y v u Q I rx ry h
  obtain ⟨d, ds, hd, he, sd, sz, se, q⟩ := h
  obtain ⟨as, r1⟩ := Dp.reads I d x v hd rx
  have hm : X.A.units + 1 + min (PyData.depthAll ds) d.depth < cLine := by
    have := Nat.min_le_right (PyData.depthAll ds) d.depth
    omega
  rcases he with he | he
  · obtain ⟨bs, r2⟩ := Dp.reads I _ y u he ry
    exact SeqAt.notIn_list_reads r2 r1 se sd hm ⟨.bl _, H, I, rfl, q⟩
  · obtain ⟨bs, r2⟩ := Dp.reads I _ y u he ry
    exact SeqAt.notIn_tuple_reads r2 r1 se sd hm ⟨.bl _, H, I, rfl, q⟩
theorem in_ok {l : List D} {x y : D} {v1 v2 : V} {b : Bool} (h1 : Cont K fa W H x v1) (h2 : Cont K fa W H y v2) (e : anyEq x l = some b) (hy : y = .lst l ∨ y = .tup l) :
    ∃ d ds, Dp K H v1 d ∧ (Dp K H v2 (.list ds) ∨ Dp K H v2 (.tuple ds)) ∧ d.canLay0 = true ∧ d.depth ≤ 64 ∧ PyData.canLayAll0 ds = true ∧ ds.any (fun z => PyData.eqv z d) = b := by
  unfold anyEq at e
  split at e <;> cases e
  rename_i o
  rw [Bool.and_eq_true, List.all_eq_true] at o
  obtain ⟨o1, o2⟩ := o
  obtain ⟨l1, l2⟩ := ok_lay x _ o1
  obtain ⟨m1, m2⟩ := ok_lays l _ o2
  refine ⟨toPy x, toPys l, cont_dp o1 h1, ?_, l1, by have : eqDeep = 40 := rfl; omega, m1, ?_⟩
  · rcases hy with rfl | rfl
    · obtain ⟨a, vs, rfl, q1, q2⟩ := h2
      exact .inl (.lst (.of q1) (reps_dp l vs _ o2 q2))
    · obtain ⟨a, vs, rfl, q1, q2⟩ := ctup h2
      exact .inr (.tup q1.sq (reps_dp l vs _ o2 q2))
  · rw [toPys_map, List.any_map]
    have : ∀ (m : List D), (∀ d ∈ m, okD eqDeep d = true) → (m.any ((fun z => PyData.eqv z (toPy x)) ∘ toPy)) = m.any (fun y => eqB eqDeep y x) := by
      intro m hm
      induction m with
      | nil => rfl
      | cons d r ih =>
        rw [List.any_cons, List.any_cons, ih fun z hz => hm z (by simp [hz])]
        show (PyData.eqv (toPy d) (toPy x) || _) = _
        rw [eqv_eqB d x eqDeep (hm d (by simp)) o1]
    exact this l o2
end
end Py
end
section
set_option Elab.async false
set_option linter.all false
set_option maxRecDepth 100000
namespace Py
open PySem L2
/-! ### order -/
theorem lexAt_shift (e r : Nat → Bool) (z : Bool) : ∀ (k i : Nat), Ob.lexAt e r z (i + 1) k = Ob.lexAt (fun j => e (j + 1)) (fun j => r (j + 1)) z i k
  | 0, _ => rfl
  | k + 1, i => by
    rw [Ob.lexAt_succ, Ob.lexAt_succ, lexAt_shift e r z k (i + 1)]
theorem lexAt_congr {e r e' r' : Nat → Bool} {z : Bool} : ∀ (k i : Nat), (∀ j, i ≤ j → j < i + k → e j = e' j ∧ (e j = false → r j = r' j)) → Ob.lexAt e r z i k = Ob.lexAt e' r' z i k
  | 0, _, _ => rfl
  | k + 1, i, h => by
    rw [Ob.lexAt_succ, Ob.lexAt_succ]
    obtain ⟨h1, h2⟩ := h i (Nat.le_refl _) (by omega)
    rw [lexAt_congr k (i + 1) fun j h1 h2 => h j (by omega) (by omega), ← h1]
    cases q : e i with
    | true => rfl
    | false => simpa using h2 q
theorem ltL_lex (f : D → D → Option Bool) : ∀ (a b : List D) (r : Bool), ltL f a b = some r →
    r = Ob.lexAt (fun j => eqB eqDeep (a.getD j .none) (b.getD j .none)) (fun j => (f (a.getD j .none) (b.getD j .none)).getD false) (decide (a.length < b.length)) 0 (min a.length b.length) ∧
    ∀ j, j < a.length → j < b.length → eqB eqDeep (a.getD j .none) (b.getD j .none) = false → (f (a.getD j .none) (b.getD j .none)).isSome = true
  | [], [], r, h => by simp [ltL] at h; subst h; exact ⟨rfl, fun j h => by simp at h⟩
  | [], _ :: _, r, h => by simp [ltL] at h; subst h; exact ⟨by simp [Ob.lexAt_zero], fun j h => by simp at h⟩
  | _ :: _, [], r, h => by simp [ltL] at h; subst h; exact ⟨by simp [Ob.lexAt_zero], fun j _ h => by simp at h⟩
  | x :: xs, y :: ys, r, h => by
    simp only [ltL] at h
    cases q : ltL f xs ys with
    | none => rw [q] at h; cases h
    | some r' =>
      rw [q] at h
      obtain ⟨i1, i2⟩ := ltL_lex f xs ys r' q
      have hm : min (x :: xs).length (y :: ys).length = min xs.length ys.length + 1 := by simp [Nat.add_min_add_right]
      have hd : decide ((x :: xs).length < (y :: ys).length) = decide (xs.length < ys.length) := by simp
      constructor
      · rw [hm, hd, Ob.lexAt_succ, lexAt_shift]
        simp only [List.getD_cons_zero, List.getD_cons_succ]
        rw [← i1]
        by_cases e : eqB eqDeep x y = true
        · rw [if_pos e]; simp only [e, if_true] at h; cases h; rfl
        · rw [if_neg e]
          simp only [e] at h
          simp at h
          rw [h]; rfl
      · intro j h1 h2 h3
        cases j with
        | zero =>
          simp only [List.getD_cons_zero] at h3 ⊢
          simp only [h3] at h
          simp at h
          rw [h]; rfl
        | succ j =>
          simp only [List.getD_cons_succ] at h3 ⊢
          exact i2 j (by simpa using h1) (by simpa using h2) h3
theorem slt_iff : ∀ a b : List Nat, slt a b = decide (a < b)
  | [], [] => by simp [slt]
  | [], b :: q => by simp [slt]
  | a :: r, [] => by simp [slt]
  | a :: r, b :: q => by
    rw [slt, slt_iff r q]
    by_cases e : a = b
    · subst e; simp
    · have : Nat.beq a b = false := Bool.eq_false_iff.mpr fun h => e (Nat.eq_of_beq_eq_true h)
      rw [this, Bool.eq_iff_iff]
      simp [Nat.blt, List.cons_lt_cons_iff, e]
      omega
theorem lt_strR {A : Around} {s : Shared} (x y : Str) (t u : Tok) : Ob.RcOp .Lt A s (.str x t) (.str y u) (decide (x.cps.toList < y.cps.toList)) := fun prog w E Q h => by
  have z := PyProof.Rows.lt_str (prog := prog) (w := w) (A := A) (E := E) (s := s) (x := x) (y := y) (t := t) (u := u) (Q := Q) h
  exact z
theorem gt_strR {A : Around} {s : Shared} (x y : Str) (t u : Tok) : Ob.RcOp .Gt A s (.str x t) (.str y u) (decide (y.cps.toList < x.cps.toList)) := fun prog w E Q h => by
  have z := PySem.P.gt_str (prog := prog) (w := w) (A := A) (E := E) (s := s) (x := x) (y := y) (t := t) (u := u) (Q := Q) h
  exact z
section
variable {K : Frg} {fa : Nat → Addr} {W : Addr → Prop} {H : Hp}
theorem Reps.vals {ds : List D} {vs : List V} {us : List Value} (h : Reps K fa W H ds vs) (r : Vals vs us) {j : Nat} (hj : j < ds.length) : ∃ v u, vs[j]? = some v ∧ us[j]? = some u ∧ Rep K fa W H (ds.getD j .none) v ∧ RelV v u := by
  obtain ⟨v, h1, h2⟩ := h.get (i := j) (d := ds.getD j .none) (by simp [hj])
  obtain ⟨u, h3, h4⟩ := r.get h1
  exact ⟨v, u, h1, h3, h2, h4⟩
theorem eqAt_rep {X : Cx} {pins : List (Addr × Obj)} {σ : L2.St} {s : Shared} (I : Inv X pins σ H s) (hK : X.K = K) {A : Around} (hu : A.units + 64 < cLine) {x y : D} {v1 v2 : V} {u1 u2 : Value} (o1 : okD eqDeep x = true) (o2 : okD eqDeep y = true)
    (h1 : Rep K fa W H x v1) (h2 : Rep K fa W H y v2) (r1 : RelV v1 u1) (r2 : RelV v2 u2) : SeqAt.EqAt A s u1 u2 (eqB eqDeep x y) := by
  subst hK
  obtain ⟨as, q1⟩ := Dp.reads I _ v1 u1 (rep_dp x v1 _ o1 h1) r1
  obtain ⟨bs, q2⟩ := Dp.reads I _ v2 u2 (rep_dp y v2 _ o2 h2) r2
  rw [← eqv_eqB x y eqDeep o1 o2]
  obtain ⟨l1, l2⟩ := ok_lay x _ o1
  obtain ⟨m1, m2⟩ := ok_lay y _ o2
  have : eqDeep = 40 := rfl
  have hm : min (toPy x).depth (toPy y).depth ≤ (toPy x).depth := Nat.min_le_left _ _
  exact SeqAt.eqAt_reads _ _ A s u1 u2 as bs q1 q2 l1 m1 (by omega)
/-- < and > of data -/
theorem rc_lt {X : Cx} {pins : List (Addr × Obj)} {σ : L2.St} {s : Shared} (I : Inv X pins σ H s) (hK : X.K = K) : ∀ (n : Nat) {A : Around} (hu : A.units + 66 + n < cLine) {x y : D} {b : Bool} {v1 v2 : V} {u1 u2 : Value}
    (e : ltD n x y = some b) (h1 : Rep K fa W H x v1) (h2 : Rep K fa W H y v2) (r1 : RelV v1 u1) (r2 : RelV v2 u2), Ob.RcOp .Lt A s u1 u2 b ∧ Ob.RcOp .Gt A s u2 u1 b := by
  intro n
  induction n with
  | zero =>
    intro A hu x y b v1 v2 u1 u2 e h1 h2 r1 r2
    cases x <;> cases y <;> simp only [ltD, reduceCtorEq] at e
    · cases e
      simp [Rep] at h1 h2
      subst h1 h2
      obtain ⟨t, rfl⟩ := r1
      obtain ⟨t', rfl⟩ := r2
      rw [ilt_iff]
      exact ⟨Ob.RcOp.lt_int _ _ _ _, Ob.RcOp.gt_int _ _ _ _⟩
    · cases e
      simp [Rep] at h1 h2
      subst h1 h2
      obtain ⟨t, rfl⟩ := r1
      obtain ⟨t', rfl⟩ := r2
      rw [slt_iff]
      exact ⟨lt_strR _ _ _ _, gt_strR _ _ _ _⟩
  | succ n ih =>
    intro A hu x y b v1 v2 u1 u2 e h1 h2 r1 r2
    cases x <;> cases y <;> simp only [ltD, reduceCtorEq] at e
    · cases e
      simp [Rep] at h1 h2
      subst h1 h2
      obtain ⟨t, rfl⟩ := r1
      obtain ⟨t', rfl⟩ := r2
      rw [ilt_iff]
      exact ⟨Ob.RcOp.lt_int _ _ _ _, Ob.RcOp.gt_int _ _ _ _⟩
    · cases e
      simp [Rep] at h1 h2
      subst h1 h2
      obtain ⟨t, rfl⟩ := r1
      obtain ⟨t', rfl⟩ := r2
      rw [slt_iff]
      exact ⟨lt_strR _ _ _ _, gt_strR _ _ _ _⟩
    · rename_i l m
      split at e
      case isFalse => cases e
      rename_i o
      rw [Bool.and_eq_true, List.all_eq_true, List.all_eq_true] at o
      obtain ⟨o1, o2⟩ := o
      simp only [Rep] at h1 h2
      obtain ⟨a, vs, rfl, t1, q1⟩ := h1
      obtain ⟨a2, vs2, rfl, t2, q2⟩ := h2
      cases r1
      cases r2
      subst hK
      obtain ⟨its, k1, p1, _⟩ := I.tuple t1.sq
      obtain ⟨its2, k2, p2, _⟩ := I.tuple t2.sq
      have l1 : its.toArray.size = l.length := by rw [List.size_toArray, ← k1.length, q1.length]
      have l2 : its2.toArray.size = m.length := by rw [List.size_toArray, ← k2.length, q2.length]
      obtain ⟨hb, hs⟩ := ltL_lex (ltD n) l m b e
      have hA : A.in1.units = A.units + 1 := rfl
      have item1 : ∀ j (h : j < its.toArray.size), ∃ v, Rep X.K fa W H (l.getD j .none) v ∧ RelV v its.toArray[j] := fun j h => by
        obtain ⟨v, u, e1, e2, e3, e4⟩ := q1.vals k1 (j := j) (by omega)
        obtain ⟨hh, e5⟩ := List.getElem?_eq_some_iff.mp e2
        refine ⟨v, e3, ?_⟩
        simp only [List.getElem_toArray]
        rw [e5]; exact e4
      have item2 : ∀ j (h : j < its2.toArray.size), ∃ v, Rep X.K fa W H (m.getD j .none) v ∧ RelV v its2.toArray[j] := fun j h => by
        obtain ⟨v, u, e1, e2, e3, e4⟩ := q2.vals k2 (j := j) (by omega)
        obtain ⟨hh, e5⟩ := List.getElem?_eq_some_iff.mp e2
        refine ⟨v, e3, ?_⟩
        simp only [List.getElem_toArray]
        rw [e5]; exact e4
      have ok1 : ∀ j, j < l.length → okD eqDeep (l.getD j .none) = true := fun j h => o1 _ (by simp [h])
      have ok2 : ∀ j, j < m.length → okD eqDeep (m.getD j .none) = true := fun j h => o2 _ (by simp [h])
      have some_of : ∀ j, j < l.length → j < m.length → eqB eqDeep (l.getD j .none) (m.getD j .none) = false → ltD n (l.getD j .none) (m.getD j .none) = some ((ltD n (l.getD j .none) (m.getD j .none)).getD false) := fun j h1 h2 h3 => by
        have := hs j h1 h2 h3
        cases q : ltD n (l.getD j .none) (m.getD j .none) with
        | none => rw [q] at this; cases this
        | some c => rfl
      have sym : ∀ (x y : D), eqB eqDeep y x = eqB eqDeep x y := by
        have go : ∀ (n : Nat) (x y : D), eqB n y x = eqB n x y := by
          intro n
          induction n with
          | zero => intro x y; cases x <;> cases y <;> simp only [eqB] <;> first | rfl | (rw [ieq_iff, ieq_iff]; rw [Bool.eq_iff_iff]; simp; exact eq_comm) | (rw [seq_iff, seq_iff]; rw [Bool.eq_iff_iff]; simp; exact eq_comm) | (rw [Bool.eq_iff_iff]; simp; exact eq_comm)
          | succ n ih =>
            have lst : ∀ (a b : List D), eqL (eqB n) b a = eqL (eqB n) a b := by
              intro a
              induction a with
              | nil => intro b; cases b <;> rfl
              | cons d r ih2 => intro b; cases b with
                | nil => rfl
                | cons d2 r2 => simp only [eqL]; rw [ih d d2, ih2 r2]
            intro x y; cases x <;> cases y <;> simp only [eqB] <;> first | rfl | exact lst _ _ | (rw [ieq_iff, ieq_iff]; rw [Bool.eq_iff_iff]; simp; exact eq_comm) | (rw [seq_iff, seq_iff]; rw [Bool.eq_iff_iff]; simp; exact eq_comm) | (rw [Bool.eq_iff_iff]; simp; exact eq_comm)
        exact go _
      refine ⟨?_, ?_⟩
      · have R := Ob.RcOp.tuples_lt (A := A) (s := s) (e := fun j => eqB eqDeep (l.getD j .none) (m.getD j .none)) (r := fun j => (ltD n (l.getD j .none) (m.getD j .none)).getD false) p1 p2 (by omega)
          (fun j g1 g2 => by
            obtain ⟨v, e1, e2⟩ := item1 j g1
            obtain ⟨v', e3, e4⟩ := item2 j g2
            exact eqAt_rep I rfl (by omega) (ok1 j (by omega)) (ok2 j (by omega)) e1 e3 e2 e4)
          (fun j g1 g2 g3 => by
            obtain ⟨v, e1, e2⟩ := item1 j g1
            obtain ⟨v', e3, e4⟩ := item2 j g2
            exact (ih (A := A.in1) (by omega) (some_of j (by omega) (by omega) g3) e1 e3 e2 e4).1)
        rw [l1, l2, ← hb] at R
        exact R
      · have R := Ob.RcOp.tuples_gt (A := A) (s := s) (e := fun j => eqB eqDeep (m.getD j .none) (l.getD j .none)) (r := fun j => (ltD n (l.getD j .none) (m.getD j .none)).getD false) p2 p1 (by omega)
          (fun j g1 g2 => by
            obtain ⟨v, e1, e2⟩ := item2 j g1
            obtain ⟨v', e3, e4⟩ := item1 j g2
            exact eqAt_rep I rfl (by omega) (ok2 j (by omega)) (ok1 j (by omega)) e1 e3 e2 e4)
          (fun j g1 g2 g3 => by
            obtain ⟨v, e1, e2⟩ := item2 j g1
            obtain ⟨v', e3, e4⟩ := item1 j g2
            exact (ih (A := A.in1) (by omega) (some_of j (by omega) (by omega) (by rw [← sym]; exact g3)) e3 e1 e4 e2).2)
        rw [l1, l2, Nat.min_comm] at R
        have cg : (fun j => eqB eqDeep (m.getD j .none) (l.getD j .none)) = fun j => eqB eqDeep (l.getD j .none) (m.getD j .none) := by funext j; exact sym _ _
        rw [cg] at R
        rw [hb]
        exact R
end
end Py
end
section
set_option Elab.async false
set_option linter.all false
set_option maxRecDepth 100000
namespace Py
open PySem L2
/-! ### all operators, by the term's own words -/
def BOp.to : BOp → Operator
  | .add => .Add | .sub => .Sub | .mul => .Mult | .fdiv => .FloorDiv | .mod => .Mod | .pow => .Pow | .shl => .LShift | .shr => .RShift | .band => .BitAnd | .bor => .BitOr | .bxor => .BitXor
def COp.to : COp → CmpOp
  | .eq => .Eq | .ne => .NotEq | .lt => .Lt | .le => .LtE | .gt => .Gt | .ge => .GtE | .is => .Is | .isnot => .IsNot | .isin => .In | .notin => .NotIn
def binR (K : Frg) : BOp → R2
  | .add => rAddD K
  | .sub => rI0 fun i j => .int (i - j)
  | .mul => rMulD K
  | .fdiv => rI CDiv fun i j => .int (i / j)
  | .mod => rI (fun _ j => 0 < j) fun i j => .int (i % j)
  | .pow => rI CPow fun i j => .int (i ^ j.toNat)
  | .shl => rI CPow fun i j => .int (i * 2 ^ j.toNat)
  | .shr => rI (fun _ j => 0 ≤ j) fun i j => .int (i / 2 ^ j.toNat)
  | .band => rI0 fun i j => .int (Builtin.bitAnd i j)
  | .bor => rI0 fun i j => .int (Builtin.bitOr i j)
  | .bxor => rI0 fun i j => .int (Builtin.bitXor i j)
theorem op_bin {X : Cx} : ∀ op : BOp, OpR X (binaryOp op.to) (binR X.K op)
  | .add => op_addD | .sub => op_sub | .mul => op_mulD | .fdiv => op_fdiv | .mod => op_mod | .pow => op_pow | .shl => op_shl | .shr => op_shr | .band => op_and | .bor => op_or | .bxor => op_xor
theorem ok_bin {K : Frg} {fa : Nat → Addr} : ∀ op : BOp, OpOK K fa (binD op) (binR K op)
  | .add => ok_add | .sub => ok_sub | .mul => ok_mul | .fdiv => ok_fdiv | .mod => ok_mod | .pow => ok_pow | .shl => ok_shl | .shr => ok_shr | .band => ok_band | .bor => ok_bor | .bxor => ok_bxor
/-- a op= b: ints, texts -/
def ipR : BOp → R2
  | .add => fun x y H Q => rI0 (fun i j => .int (i + j)) x y H Q ∨ (∃ i j, x = .str i ∧ y = .str j ∧ i.length + j.length ≤ sizeLine ∧ Q (.str (i ++ j)) H)
  | .sub => rI0 fun i j => .int (i - j)
  | .mul => rI CMul fun i j => .int (i * j)
  | .fdiv => rI CDiv fun i j => .int (i / j)
  | .mod => rI (fun _ j => 0 < j) fun i j => .int (i % j)
  | .pow => fun _ _ _ _ => False
  | .shl => rI CPow fun i j => .int (i * 2 ^ j.toNat)
  | .shr => rI (fun _ j => 0 ≤ j) fun i j => .int (i / 2 ^ j.toNat)
  | .band => rI0 fun i j => .int (Builtin.bitAnd i j)
  | .bor => rI0 fun i j => .int (Builtin.bitOr i j)
  | .bxor => rI0 fun i j => .int (Builtin.bitXor i j)
theorem op_ip {X : Cx} : ∀ op : BOp, OpR X (inplaceOp op.to) (ipR op)
  | .add => iop_add.or iop_add_str | .sub => iop_sub | .mul => iop_mul | .fdiv => iop_fdiv | .mod => iop_mod | .shl => iop_shl | .shr => iop_shr | .band => iop_and | .bor => iop_or | .bxor => iop_xor
  | .pow => fun _ _ _ _ _ _ _ _ _ _ _ _ h => h.elim
theorem ok_aug {K : Frg} {fa : Nat → Addr} (op : BOp) : OpOK K fa (augD op) (ipR op) := by
  intro W H x y v1 v2 d Q hw h1 h2 e q
  have key : binD op x y = some d → binR K op v1 v2 H Q := fun e => ok_bin (K := K) (fa := fa) op W H _ _ v1 v2 d Q hw h1 h2 e q
  cases x <;> cases y <;> simp only [augD, reduceCtorEq] at e
  · rename_i i j
    have c1 := cint h1
    have c2 := cint h2
    subst c1 c2
    cases op <;> simp only [reduceCtorEq] at e <;> have z := key e <;> simp only [binR, ipR] at z ⊢ <;> try exact z
    · rcases z with z | z | z | z
      · exact .inl z
      · obtain ⟨_, _, z, _⟩ := z; cases z
      · obtain ⟨_, _, _, _, z, _⟩ := z; cases z
      · obtain ⟨_, _, _, _, z, _⟩ := z; cases z
    · rcases z with z | z
      · exact z
      · obtain ⟨_, _, _, z, _⟩ := z; cases z
  · have c1 := cstr h1
    have c2 := cstr h2
    subst c1 c2
    cases op <;> simp only [reduceCtorEq] at e
    have z := key e
    simp only [binR, ipR] at z ⊢
    rcases z with z | z | z | z
    · obtain ⟨_, _, z, _⟩ := z; cases z
    · exact .inr z
    · obtain ⟨_, _, _, _, z, _⟩ := z; cases z
    · obtain ⟨_, _, _, _, z, _⟩ := z; cases z

/-! ### comparisons -/
section
variable {K : Frg} {fa : Nat → Addr} {W : Addr → Prop} {H : Hp}
def rLtG (K : Frg) (fa : Nat → Addr) (gt : Bool) : R2 := fun v1 v2 H Q => ∃ W x y b, Rep K fa W H x v1 ∧ Rep K fa W H y v2 ∧ (if gt then ltD eqDeep y x else ltD eqDeep x y) = some b ∧ Q (.bl b) H
theorem op_ltG {X : Cx} (hu : X.A.units + 190 < cLine) : OpR X (compareOp .Lt) (rLtG X.K fa false) := by
  intro pins s σ H x y v u Q I rx ry h
  obtain ⟨W, d1, d2, b, h1, h2, e, q⟩ := h
  have hd : eqDeep = 40 := rfl
  exact (rc_lt I rfl eqDeep (A := X.A) (by omega) e h1 h2 rx ry).1 X.prog X.w _ _ ⟨.bl b, H, I, rfl, q⟩
theorem op_gtG {X : Cx} (hu : X.A.units + 190 < cLine) : OpR X (compareOp .Gt) (rLtG X.K fa true) := by
  intro pins s σ H x y v u Q I rx ry h
  obtain ⟨W, d1, d2, b, h1, h2, e, q⟩ := h
  have hd : eqDeep = 40 := rfl
  exact (rc_lt I rfl eqDeep (A := X.A) (by omega) e h2 h1 ry rx).2 X.prog X.w _ _ ⟨.bl b, H, I, rfl, q⟩
theorem ltD_cont {n : Nat} {x y : D} {b : Bool} {v1 v2 : V} (e : ltD n x y = some b) (h1 : Cont K fa W H x v1) (h2 : Cont K fa W H y v2) : Rep K fa W H x v1 ∧ Rep K fa W H y v2 := by
  cases n <;> cases x <;> cases y <;> simp only [ltD, reduceCtorEq] at e <;> exact ⟨h1, h2⟩
def rInD2 (K : Frg) (neg : Bool) : R2 := fun x y H Q => rInG K neg x y H Q ∨ ∃ a o, y = .ref a ∧ DGet H a x o ∧ Q (.bl (if neg then !o.isSome else o.isSome)) H
theorem op_inD2 {X : Cx} (hu : X.A.units + 190 < cLine) : OpR X (compareOp .In) (rInD2 X.K false) := by
  intro pins s σ H x y v u Q I rx ry h
  rcases h with h | ⟨a, o, rfl, g, q⟩
  · exact op_inG (by omega) pins s σ H x y v u Q I rx ry h
  · obtain rfl : u = Value.ref a := ry
    exact d_in (by omega) I g rx fun s' I' => ⟨.bl _, H, I', rfl, q⟩
theorem op_notInD2 {X : Cx} (hu : X.A.units + 190 < cLine) : OpR X (compareOp .NotIn) (rInD2 X.K true) := by
  intro pins s σ H x y v u Q I rx ry h
  rcases h with h | ⟨a, o, rfl, g, q⟩
  · exact op_notInG (by omega) pins s σ H x y v u Q I rx ry h
  · obtain rfl : u = Value.ref a := ry
    exact d_notIn (by omega) I g rx fun s' I' => ⟨.bl _, H, I', rfl, q⟩
def rIsG (neg : Bool) : R2 := fun x y H Q => (y = .non ∧ Q (.bl (if neg then !decide (x = .non) else decide (x = .non))) H) ∨ ∃ a b, x = .bl a ∧ y = .bl b ∧ Q (.bl (if neg then !decide (a = b) else decide (a = b))) H
theorem op_isG {X : Cx} : OpR X (compareOp .Is) (rIsG false) := op_isN.or op_isBl
theorem op_isnotG {X : Cx} : OpR X (compareOp .IsNot) (rIsG true) := op_notN.or op_notBl
def cmpR (K : Frg) (fa : Nat → Addr) : COp → R2
  | .eq => rEqD K
  | .ne => rNeD K
  | .lt => rLtG K fa false
  | .gt => rLtG K fa true
  | .le => rI0 fun i j => .bl (decide (i ≤ j))
  | .ge => rI0 fun i j => .bl (decide (j ≤ i))
  | .is => rIsG false
  | .isnot => rIsG true
  | .isin => rInD2 K false
  | .notin => rInD2 K true
theorem op_cmp {X : Cx} (hu : X.A.units + 190 < cLine) : ∀ op : COp, OpR X (compareOp op.to) (cmpR X.K fa op)
  | .eq => op_eqD (by omega) | .ne => op_neD (by omega) | .lt => op_ltG hu | .gt => op_gtG hu | .le => op_le | .ge => op_ge | .is => op_isG | .isnot => op_isnotG | .isin => op_inD2 hu | .notin => op_notInD2 hu
theorem key_of_isKey {d : D} (h : isKey d = true) : ∃ k, keyOf d = some k := by
  cases d <;> simp [isKey] at h <;> exact ⟨_, rfl⟩
theorem keyEq_iff {a b : D} {k j : Key} (ha : keyOf a = some k) (hb : keyOf b = some j) : keyEq a b = decide (k = j) := by
  cases a <;> simp only [keyOf, reduceCtorEq] at ha <;> cases b <;> simp only [keyOf, reduceCtorEq] at hb <;> cases ha <;> cases hb <;> simp only [keyEq]
  · rw [ieq_iff, key_ll]; rw [Bool.eq_iff_iff]; simp
  · simp
  · simp
  · rw [seq_iff, key_rr]
theorem rep_key {d : D} {v : V} {k : Key} (h : Rep K fa W H d v) (hk : keyOf d = some k) : v = kV k := by
  cases d <;> simp only [keyOf, reduceCtorEq] at hk <;> cases hk <;> simp [Rep] at h <;> simp [h, kV]
theorem cont_key {d : D} {v : V} {k : Key} (h : Cont K fa W H d v) (hk : keyOf d = some k) : v = kV k := by
  cases d <;> simp only [keyOf, reduceCtorEq] at hk <;> cases hk <;> simp [Cont, Rep] at h <;> simp [h, kV]
theorem look_val : ∀ {ks ds : List D} {kvs : List (Key × V)} {k : D} {j : Key}, ks.map keyOf = kvs.map (fun p => some p.1) → Reps K fa W H ds (kvs.map (·.2)) → keyOf k = some j →
    match lookK ks ds k with
    | some d => ∃ v, valV kvs j = some v ∧ Rep K fa W H d v
    | .none => valV kvs j = none
  | [], ds, kvs, k, j, h1, h2, hk => by
    have : kvs = [] := by cases kvs <;> simp_all
    subst this
    simp [lookK, valV]
  | k' :: ks, ds, kvs, k, j, h1, h2, hk => by
    cases kvs with
    | nil => simp at h1
    | cons p kvs =>
      simp only [List.map_cons, List.cons.injEq] at h1
      cases ds with
      | nil => simp [Reps] at h2
      | cons d ds =>
        simp only [List.map_cons, Reps, List.cons.injEq] at h2
        obtain ⟨v, r, ⟨rfl, rfl⟩, h3, h4⟩ := h2
        simp only [lookK]
        rw [keyEq_iff h1.1 hk]
        by_cases e : p.1 = j
        · rw [decide_eq_true e, if_pos rfl]
          exact ⟨_, valV_pos e, h3⟩
        · rw [decide_eq_false e, if_neg Bool.false_ne_true, valV_neg e]
          exact look_val h1.2 h4 hk
theorem hasK_val {ks : List D} {kvs : List (Key × V)} {k : D} {j : Key} (h1 : ks.map keyOf = kvs.map (fun p => some p.1)) (hk : keyOf k = some j) : (ks.any fun y => keyEq y k) = (valV kvs j).isSome := by
  induction kvs generalizing ks with
  | nil => cases ks <;> simp_all [valV]
  | cons p kvs ih =>
    cases ks with
    | nil => simp at h1
    | cons k' ks =>
      simp only [List.map_cons, List.cons.injEq] at h1
      rw [List.any_cons, ih h1.2, keyEq_iff h1.1 hk]
      by_cases e : p.1 = j
      · rw [decide_eq_true e, valV_pos e]; rfl
      · rw [decide_eq_false e, valV_neg e]; rfl
theorem cdct {ks ds : List D} {v : V} (h : Cont K fa W H (.dct ks ds) v) : ∃ a kvs, v = .ref a ∧ H a = some (.dK kvs) ∧ ks.map keyOf = kvs.map (fun p => some p.1) ∧ Reps K fa W H ds (kvs.map (·.2)) := by simpa [Cont] using h
theorem hasK_some {ks : List D} {k : D} {b : Bool} (h : hasK ks k = some b) : isKey k = true ∧ b = ks.any fun y => keyEq y k := by
  unfold hasK at h
  split at h <;> cases h
  rename_i o
  exact ⟨o, rfl⟩
theorem cnone {v : V} (h : Cont K fa W H .none v) : v = .non := by simpa [Cont, Rep] using h
theorem cont_none {d : D} {v : V} (h : Cont K fa W H d v) : isNone d = decide (v = .non) := by
  cases d with
  | none => rw [cnone h]; simp [isNone]
  | bl b => rw [cbl h]; simp [isNone]
  | int b => rw [cint h]; simp [isNone]
  | str b => rw [cstr h]; simp [isNone]
  | fn j => simp [Cont, Rep] at h; rw [h]; simp [isNone]
  | loc j => simp [Cont, Rep] at h
  | tup l => obtain ⟨a, vs, rfl, _⟩ := ctup h; simp [isNone]
  | lst l => obtain ⟨a, vs, rfl, _⟩ := clst h; simp [isNone]
  | dct k l => obtain ⟨a, vs, rfl, _⟩ := cdct h; simp [isNone]
  | ro l => simp only [Cont, Rep] at h; obtain ⟨a, vs, rfl, _⟩ := h; simp [isNone]
theorem ok_cmp : ∀ op : COp, OpOK K fa (fun x y => (cmpD op x y).map .bl) (cmpR K fa op) := by
  intro op
  cases op with
  | eq => exact ok_eq
  | ne => exact ok_ne
  | lt =>
    intro W H x y v1 v2 d Q hw h1 h2 e q
    obtain ⟨b, e1, rfl⟩ := map_bl e
    have e2 : ltD eqDeep x y = some b := e1
    obtain ⟨r1, r2⟩ := ltD_cont e2 h1 h2
    exact ⟨W, x, y, b, r1, r2, by simpa using e2, q _ _ Grow.refl rep_bl⟩
  | gt =>
    intro W H x y v1 v2 d Q hw h1 h2 e q
    obtain ⟨b, e1, rfl⟩ := map_bl e
    have e2 : ltD eqDeep y x = some b := e1
    obtain ⟨r1, r2⟩ := ltD_cont e2 h2 h1
    exact ⟨W, x, y, b, r2, r1, by simpa using e2, q _ _ Grow.refl rep_bl⟩
  | le =>
    intro W H x y v1 v2 d Q hw h1 h2 e q
    obtain ⟨b, e1, rfl⟩ := map_bl e
    cases x <;> cases y <;> simp only [cmpD, reduceCtorEq] at e1
    cases e1
    rw [cint h1, cint h2]
    exact ⟨_, _, rfl, rfl, by have := q H (.bl _) Grow.refl (rep_bl (K := K) (fa := fa) (W := W)); rw [ile_iff] at this; exact this⟩
  | ge =>
    intro W H x y v1 v2 d Q hw h1 h2 e q
    obtain ⟨b, e1, rfl⟩ := map_bl e
    cases x <;> cases y <;> simp only [cmpD, reduceCtorEq] at e1
    cases e1
    rw [cint h1, cint h2]
    exact ⟨_, _, rfl, rfl, by have := q H (.bl _) Grow.refl (rep_bl (K := K) (fa := fa) (W := W)); rw [ile_iff] at this; exact this⟩
  | is =>
    intro W H x y v1 v2 d Q hw h1 h2 e q
    obtain ⟨b, e1, rfl⟩ := map_bl e
    have q' := q H (.bl b) Grow.refl rep_bl
    cases y with
    | none =>
      have : b = isNone x := by cases x <;> simp [cmpD] at e1 <;> exact e1.symm
      subst this
      rw [cnone h2]
      left
      refine ⟨rfl, ?_⟩
      rw [cont_none h1] at q'
      simpa using q'
    | bl c =>
      cases x <;> simp only [cmpD, reduceCtorEq] at e1
      cases e1
      rw [cbl h1, cbl h2]
      right
      refine ⟨_, _, rfl, rfl, ?_⟩
      simpa [Bool.beq_eq_decide_eq] using q'
    | _ => cases x <;> simp only [cmpD, reduceCtorEq] at e1
  | isnot =>
    intro W H x y v1 v2 d Q hw h1 h2 e q
    obtain ⟨b, e1, rfl⟩ := map_bl e
    have q' := q H (.bl b) Grow.refl rep_bl
    cases y with
    | none =>
      have : b = !isNone x := by cases x <;> simp only [cmpD, Option.some.injEq] at e1 <;> exact e1.symm
      subst this
      rw [cnone h2]
      left
      refine ⟨rfl, ?_⟩
      rw [cont_none h1] at q'
      simpa using q'
    | bl c =>
      cases x <;> simp only [cmpD, reduceCtorEq] at e1
      cases e1
      rw [cbl h1, cbl h2]
      right
      refine ⟨_, _, rfl, rfl, ?_⟩
      simpa [Bool.beq_eq_decide_eq] using q'
    | _ => cases x <;> simp only [cmpD, reduceCtorEq] at e1
  | isin =>
    intro W H x y v1 v2 d Q hw h1 h2 e q
    obtain ⟨b, e1, rfl⟩ := map_bl e
    have q' := q H (.bl b) Grow.refl rep_bl
    have seqc : ∀ l, anyEq x l = some b → (y = .lst l ∨ y = .tup l) → rInD2 K false v1 v2 H Q := fun l e3 hy => by
      obtain ⟨d, ds, g1, g2, g3, g4, g5, g6⟩ := in_ok h1 h2 e3 hy
      exact .inl ⟨d, ds, g1, g2, g3, g4, g5, by rw [g6]; simpa using q'⟩
    cases y <;> simp only [cmpD, reduceCtorEq] at e1
    · exact seqc _ e1 (.inr rfl)
    · exact seqc _ e1 (.inl rfl)
    · obtain ⟨hk, rfl⟩ := hasK_some e1
      obtain ⟨k, hk⟩ := key_of_isKey hk
      obtain ⟨a, kvs, rfl, g1, g2, g3⟩ := cdct h2
      rw [hasK_val g2 hk] at q'
      exact .inr ⟨a, _, rfl, .inl ⟨kvs, k, .inl g1, cont_key h1 hk, rfl⟩, by simpa using q'⟩
  | notin =>
    intro W H x y v1 v2 d Q hw h1 h2 e q
    obtain ⟨b, e1, rfl⟩ := map_bl e
    have q' := q H (.bl b) Grow.refl rep_bl
    have neg : ∀ {o : Option Bool}, o.map not = some b → ∃ c, o = some c ∧ b = !c := fun {o} h => by
      cases o with
      | none => cases h
      | some c => cases h; exact ⟨c, rfl, rfl⟩
    have seqc : ∀ l c, anyEq x l = some c → b = !c → (y = .lst l ∨ y = .tup l) → rInD2 K true v1 v2 H Q := fun l c e3 e4 hy => by
      obtain ⟨d, ds, g1, g2, g3, g4, g5, g6⟩ := in_ok h1 h2 e3 hy
      subst e4
      exact .inl ⟨d, ds, g1, g2, g3, g4, g5, by rw [g6]; simpa using q'⟩
    cases y <;> simp only [cmpD, reduceCtorEq] at e1
    · obtain ⟨c, e3, e4⟩ := neg e1
      exact seqc _ c e3 e4 (.inr rfl)
    · obtain ⟨c, e3, e4⟩ := neg e1
      exact seqc _ c e3 e4 (.inl rfl)
    · obtain ⟨c, e3, rfl⟩ := neg e1
      obtain ⟨hk, rfl⟩ := hasK_some e3
      obtain ⟨k, hk⟩ := key_of_isKey hk
      obtain ⟨a, kvs, rfl, g1, g2, g3⟩ := cdct h2
      rw [hasK_val g2 hk] at q'
      exact .inr ⟨a, _, rfl, .inl ⟨kvs, k, .inl g1, cont_key h1 hk, rfl⟩, by simpa using q'⟩
end
end Py
end
section
set_option Elab.async false
set_option linter.all false
set_option maxRecDepth 100000
namespace Py
open PySem L2
/-! ### truth, items, slices, built-in functions -/
section
variable {K : Frg} {fa : Nat → Addr} {W : Addr → Prop} {H : Hp}
theorem isE {α β : Type} {xs : List α} {ys : List β} (h : xs.length = ys.length) : xs.isEmpty = ys.isEmpty := by cases xs <;> cases ys <;> simp_all
theorem cro {ds : List D} {v : V} (h : Cont K fa W H (.ro ds) v) : ∃ a vs, v = .ref a ∧ RAt K W H a vs ∧ Reps K fa W H ds vs := by simpa [Cont, Rep] using h
theorem truth_ok {d : D} {v : V} {b : Bool} (h : Cont K fa W H d v) (e : truth d = some b) : TruV K v H b := by
  cases d <;> simp only [truth, Option.some.injEq, reduceCtorEq] at e
  · rw [cnone h]; exact e.symm
  · rw [cbl h]; exact e.symm
  · rw [cint h]; exact e.symm
  · split at e <;> cases e
    rename_i s hs
    rw [cstr h]
    refine ⟨by rw [str_len, ← sz]; exact hs, ?_⟩
    rw [str_len]
    cases s <;> simp <;> omega
  · obtain ⟨a, vs, rfl, t, r⟩ := ctup h
    have l := r.length
    refine .inr (.inl ⟨vs, t.sq, ?_⟩)
    rw [← e, isE l]
  · obtain ⟨a, vs, rfl, t, r⟩ := clst h
    have l := r.length
    refine .inl ⟨vs, .of t, ?_⟩
    rw [← e, isE l]
  · obtain ⟨a, kvs, rfl, t, k, r⟩ := cdct h
    refine .inr (.inr ⟨kvs, t, ?_⟩)
    rw [← e]
    have l := congrArg List.length k
    simp only [List.length_map] at l
    rw [isE l]
  · obtain ⟨a, vs, rfl, t, r⟩ := cro h
    have l := r.length
    refine .inl ⟨vs, t.sq, ?_⟩
    rw [← e, isE l]
/-- items -/
theorem idx_eq (n : Nat) (i : Int) : idx n i = ixN n i := by
  cases i with
  | ofNat k =>
    simp only [idx, ixN]
    have : (0 : Int) ≤ Int.ofNat k := Int.natCast_nonneg k
    rw [if_pos this]
    by_cases h : k < n
    · rw [if_pos h, if_pos (by simpa using h)]; rfl
    · rw [if_neg h, if_neg (by simpa using h)]
  | negSucc k =>
    simp only [idx, ixN]
    have : ¬ (0 : Int) ≤ Int.negSucc k := by simp
    rw [if_neg this]
    by_cases h : k < n
    · rw [if_pos h, if_pos (by omega)]
      congr 1
      omega
    · rw [if_neg h, if_neg (by omega)]
def rIxG (K : Frg) : R2 := fun x y H Q => rIx K x y H Q ∨ ∃ a v, x = .ref a ∧ DGet H a y (some v) ∧ Q v H
theorem ix_dict {X : Cx} (hu : X.A.units + 1 < cLine) : IxR X (fun x y H Q => ∃ a v, x = .ref a ∧ DGet H a y (some v) ∧ Q v H) := by
  intro value slice pins s σ H x y v u Q I rx ry h hs
  obtain ⟨a, z, rfl, g, q⟩ := h
  obtain rfl : v = Value.ref a := rx
  have hT := dict_typeIs I g
  unfold PyProof.Rows.subscriptTail
  refine wpAny_bind ?_
  rw [getitemInPython_of_ne hT.not_modules]
  refine wpAny_bind (wpAny_specialOf hT PySem.F.slot_dict_getitem.lookup ?_)
  have fin : wpAny (model X.prog X.w) X.A (subscripted slice false (.ref a) u) (fun r s₃ => wpAny (model X.prog X.w) X.A (letTemporaryGo value (.ref a) r >>= fun _ => pure r) (EP X pins σ Q) X.xe s₃) X.xe s := by
    rw [hs]
    exact wpAny_operating (d_getItem hu I g ry fun w' s3 I3 rw' => wpAny_bind (wpAny_letTemporaryGo (wpAny_pure ⟨z, H, I3, rw', q⟩)))
  first
    | exact wpAny_pure (wpAny_bind fin)
    | exact wpAny_bind (wpAny_pure (wpAny_bind fin))
    | exact wpAny_bind fin
theorem op_ixG {X : Cx} (hu : X.A.units + 1 < cLine) : IxR X (rIxG X.K) := ix_seq.or (ix_dict hu)
theorem ok_ix : OpOK K fa ixD (rIxG K) := by
  intro W H x y v1 v2 d Q hw h1 h2 e q
  have sq : ∀ (l : List D) (i : Int) (vs : List V), Reps K fa W H l vs → ((idx l.length i).bind fun j => l[j]?) = some d → ∃ v, atI vs i = some v ∧ Rep K fa W H d v := fun l i vs r e => by
    cases q : idx l.length i with
    | none => rw [q] at e; cases e
    | some j =>
      rw [q] at e
      obtain ⟨v, e1, e2⟩ := r.get e
      refine ⟨v, ?_, e2⟩
      unfold atI
      rw [← r.length, ← idx_eq, q]
      exact e1
  cases x with
  | lst l =>
    cases y <;> simp only [ixD, reduceCtorEq] at e
    obtain ⟨a, vs, rfl, t, r⟩ := clst h1
    obtain ⟨v, e1, e2⟩ := sq _ _ _ r e
    rw [cint h2]
    exact .inl (.inl ⟨a, vs, _, v, rfl, rfl, .of t, e1, q _ _ Grow.refl e2⟩)
  | tup l =>
    cases y <;> simp only [ixD, reduceCtorEq] at e
    obtain ⟨a, vs, rfl, t, r⟩ := ctup h1
    obtain ⟨v, e1, e2⟩ := sq _ _ _ r e
    rw [cint h2]
    exact .inl (.inr (.inl ⟨a, vs, _, v, rfl, rfl, t.sq, e1, q _ _ Grow.refl e2⟩))
  | str l =>
    cases y <;> simp only [ixD, reduceCtorEq] at e
    rename_i i
    split at e
    case isFalse => cases e
    rename_i hl
    rw [cstr h1, cint h2]
    cases k : idx l.length i with
    | none => rw [k] at e; cases e
    | some j =>
      rw [k] at e
      simp only [Option.bind_some] at e
      cases c : l[j]? with
      | none => rw [c] at e; cases e
      | some c' =>
        rw [c] at e
        cases e
        refine .inl (.inr (.inr ⟨_, i, c', rfl, rfl, by rw [str_len, ← sz]; exact hl, ?_, ?_⟩))
        · show atI l.toArray.toList i = _
          unfold atI
          rw [List.toList_toArray, ← idx_eq, k]
          exact c
        · exact q _ _ Grow.refl (by simp [Rep])
  | dct ks ds =>
    have e' : (if isKey y then lookK ks ds y else .none) = some d := by cases y <;> simpa [ixD] using e
    split at e'
    case isFalse => cases e'
    rename_i hk
    obtain ⟨k, hk⟩ := key_of_isKey hk
    obtain ⟨a, kvs, rfl, t, g, r⟩ := cdct h1
    have z := look_val g r hk
    rw [e'] at z
    obtain ⟨v, e1, e2⟩ := z
    rw [cont_key h2 hk]
    exact .inr ⟨a, v, rfl, by rw [← e1]; exact DGet.k t, q _ _ Grow.refl e2⟩
  | ro l =>
    cases y <;> simp only [ixD, reduceCtorEq] at e
    obtain ⟨a, vs, rfl, t, r⟩ := cro h1
    obtain ⟨v, e1, e2⟩ := sq _ _ _ r e
    rw [cint h2]
    exact .inl (.inl ⟨a, vs, _, v, rfl, rfl, t.sq, e1, q _ _ Grow.refl e2⟩)
  | _ => cases y <;> simp only [ixD, reduceCtorEq] at e
/-- slices -/
def rSlD (K : Frg) : V → Option Int → Option Int → Hp → VK → Prop := fun x lo hi H Q => rSlL K x lo hi H Q ∨ rSlA K x lo hi H Q ∨ rSlS x lo hi H Q
theorem sl_D {X : Cx} : SlR X (rSlD X.K) := sl_list.or (sl_tupA.or sl_str)
def partOf : D → Option (Option Int)
  | .none => some .none
  | .int i => some (some i)
  | _ => .none
theorem cut_six {n d : Nat} {p : D} {i : Nat} (h : cut n d p = some i) (hd : d ≤ n) : ∃ o, partOf p = some o ∧ i = HT.sIx n d o ∧ i ≤ n := by
  cases p <;> simp only [cut, reduceCtorEq] at h
  · cases h; exact ⟨.none, rfl, rfl, hd⟩
  · rename_i k
    cases k with
    | ofNat k =>
      simp only [cut, Option.some.injEq] at h
      subst h
      refine ⟨_, rfl, ?_, Nat.min_le_right _ _⟩
      have := HT.sIx_nat n d k
      exact this.symm
    | negSucc k =>
      simp only [cut, Option.some.injEq] at h
      subst h
      refine ⟨_, rfl, ?_, by omega⟩
      have := HT.clip_eq (Int.negSucc k) n d
      rw [if_pos (by omega)] at this
      omega
theorem slc_cut {α : Type} {l r : List α} {lo hi : D} (h : slcL l lo hi = some r) : ∃ o1 o2, partOf lo = some o1 ∧ partOf hi = some o2 ∧ r = (l.drop (HT.sIx l.length 0 o1)).take (HT.sIx l.length l.length o2 - HT.sIx l.length 0 o1) := by
  unfold slcL at h
  split at h
  case h_2 => cases h
  rename_i i j h1 h2
  cases h
  obtain ⟨o1, a1, a2, _⟩ := cut_six h1 (Nat.zero_le _)
  obtain ⟨o2, b1, b2, _⟩ := cut_six h2 (Nat.le_refl _)
  exact ⟨o1, o2, a1, b1, by rw [a2, b2]⟩
theorem ok_slc {x lo hi d : D} {v : V} {Q : VK} (hw : ∀ a, W a → ∃ o, H a = some o) (h : Cont K fa W H x v) (e : slcD x lo hi = some d) (q : ∀ H' v, Grow H H' → Rep K fa W H' d v → Q v H') :
    ∃ o1 o2, partOf lo = some o1 ∧ partOf hi = some o2 ∧ rSlD K v o1 o2 H Q := by
  cases x <;> simp only [slcD, reduceCtorEq] at e
  · rename_i l
    split at e
    case isFalse => cases e
    rename_i hl
    cases k : slcL l lo hi with
    | none => rw [k] at e; cases e
    | some r =>
      rw [k] at e
      cases e
      obtain ⟨o1, o2, a1, a2, rfl⟩ := slc_cut k
      rw [cstr h]
      refine ⟨o1, o2, a1, a2, .inr (.inr ⟨_, rfl, by rw [str_len, ← sz]; exact hl, ?_⟩)⟩
      refine q H _ Grow.refl ?_
      simp only [Rep, cutS, List.toList_toArray]
      rw [str_len]
  · rename_i l
    cases k : slcL l lo hi with
    | none => rw [k] at e; cases e
    | some r =>
      rw [k] at e
      cases e
      obtain ⟨o1, o2, a1, a2, rfl⟩ := slc_cut k
      obtain ⟨a, vs, rfl, t, r⟩ := ctup h
      refine ⟨o1, o2, a1, a2, .inr (.inl ⟨a, vs, rfl, t.sq, fun hz => ?_, fun hz p hp => ?_⟩)⟩
      · refine q H _ Grow.refl ?_
        rw [← r.length] at hz
        rw [hz.1, hz.2]
        simpa [Cont] using h
      · refine q _ _ (Grow.upd hp) ?_
        unfold cutV
        rw [← r.length]
        exact rep_tup_new hw hp ((r.drop _).take _)
  · rename_i l
    cases k : slcL l lo hi with
    | none => rw [k] at e; cases e
    | some r =>
      rw [k] at e
      cases e
      obtain ⟨o1, o2, a1, a2, rfl⟩ := slc_cut k
      obtain ⟨a, vs, rfl, t, r⟩ := clst h
      refine ⟨o1, o2, a1, a2, .inl ⟨a, vs, rfl, .of t, fun p hp => ?_⟩⟩
      refine q _ _ (Grow.upd hp) ?_
      unfold cutV
      rw [← r.length]
      exact rep_lst_new hw hp ((r.drop _).take _)
/-! #### built-in functions -/
def Conts (K : Frg) (fa : Nat → Addr) (W : Addr → Prop) (H : Hp) : List D → List V → Prop
  | [], vs => vs = []
  | d :: ds, vs => ∃ v r, vs = v :: r ∧ Cont K fa W H d v ∧ Conts K fa W H ds r
def PrimOK (K : Frg) (fa : Nat → Addr) (f : List D → Option D) (r : List V → Hp → VK → Prop) : Prop :=
  ∀ (W : Addr → Prop) (H : Hp) (ds : List D) (vs : List V) (d : D) (Q : VK), (∀ a, W a → ∃ o, H a = some o) → Conts K fa W H ds vs → f ds = some d →
    (∀ H' v, Grow H H' → Rep K fa W H' d v → Q v H') → r vs H Q
def PrimNew (K : Frg) (fa : Nat → Addr) (f : List D → Option D) (r : List V → Hp → VK → Prop) : Prop :=
  ∀ (W : Addr → Prop) (H : Hp) (ds : List D) (vs : List V) (l : List D) (Q : VK), Conts K fa W H ds vs → f ds = some (.lst l) →
    (∀ p ws, H p = none → Reps K fa W H l ws → Q (.ref p) (upd H p (.lst ws))) → r vs H Q
theorem PrimNew.ok {f : List D → Option D} {r : List V → Hp → VK → Prop} (h : PrimNew K fa f r) (hf : ∀ ds d, f ds = some d → ∃ l, d = .lst l) : PrimOK K fa f r := by
  intro W H ds vs d Q hw hc e q
  obtain ⟨l, rfl⟩ := hf ds d e
  exact h W H ds vs l Q hc e fun p ws hp hr => q _ _ (Grow.upd hp) (rep_lst_new hw hp hr)
theorem conts1 {d : D} {vs : List V} (h : Conts K fa W H [d] vs) : ∃ v, vs = [v] ∧ Cont K fa W H d v := by
  obtain ⟨v, r, rfl, h1, h2⟩ := h
  cases h2
  exact ⟨v, rfl, h1⟩
theorem d1_inv {f : D → Option D} {ds : List D} {d : D} {vs : List V} (hc : Conts K fa W H ds vs) (e : d1 f ds = some d) : ∃ a v, vs = [v] ∧ Cont K fa W H a v ∧ f a = some d := by
  match ds, e with
  | [a], e =>
    obtain ⟨v, r, rfl, h1, h2⟩ := hc
    cases h2
    exact ⟨a, v, rfl, h1, e⟩
theorem d2_inv {f : D → D → Option D} {ds : List D} {d : D} {vs : List V} (hc : Conts K fa W H ds vs) (e : d2 f ds = some d) : ∃ a b v w, vs = [v, w] ∧ Cont K fa W H a v ∧ Cont K fa W H b w ∧ f a b = some d := by
  match ds, e with
  | [a, b], e =>
    obtain ⟨v, r, rfl, h1, w, r2, rfl, h2, h3⟩ := hc
    cases h3
    exact ⟨a, b, v, w, rfl, h1, h2, e⟩
theorem d3_inv {f : D → D → D → Option D} {ds : List D} {d : D} {vs : List V} (hc : Conts K fa W H ds vs) (e : d3 f ds = some d) : ∃ a b c v w z, vs = [v, w, z] ∧ Cont K fa W H a v ∧ Cont K fa W H b w ∧ Cont K fa W H c z ∧ f a b c = some d := by
  match ds, e with
  | [a, b, c], e =>
    obtain ⟨v, r, rfl, h1, w, r2, rfl, h2, z, r3, rfl, h3, h4⟩ := hc
    cases h4
    exact ⟨a, b, c, v, w, z, rfl, h1, h2, h3, e⟩
theorem i1_inv {f : Int → Option D} {a d : D} (e : i1 f a = some d) : ∃ i, a = .int i ∧ f i = some d := by
  cases a <;> simp only [i1, reduceCtorEq] at e
  exact ⟨_, rfl, e⟩
theorem i2_inv {f : Int → Int → Option D} {a b d : D} (e : i2 f a b = some d) : ∃ i j, a = .int i ∧ b = .int j ∧ f i j = some d := by
  cases a <;> cases b <;> simp only [i2, reduceCtorEq] at e
  exact ⟨_, _, rfl, rfl, e⟩
theorem conts2 {d d2 : D} {vs : List V} (h : Conts K fa W H [d, d2] vs) : ∃ v v2, vs = [v, v2] ∧ Cont K fa W H d v ∧ Cont K fa W H d2 v2 := by
  obtain ⟨v, r, rfl, h1, v2, r2, rfl, h2, h3⟩ := h
  cases h3
  exact ⟨v, v2, rfl, h1, h2⟩
/-- len -/
def rLenD (K : Frg) : List V → Hp → VK → Prop := fun xs H Q => (∃ x n, xs = [x] ∧ LenV K x H n ∧ Q (.int n) H) ∨ ∃ a kvs, xs = [V.ref a] ∧ H a = some (.dK kvs) ∧ Q (.int kvs.length) H
theorem call_lenG {X : Cx} : CallR X (.builtin "len") (rLenD X.K) := call_len.or call_lenD
theorem ok_len : PrimOK K fa (d1 pLen) (rLenD K) := by
  intro W H ds vs d Q hw hc e q
  obtain ⟨a, v, rfl, h, e⟩ := d1_inv hc e
  cases a <;> simp only [pLen, reduceCtorEq] at e
  · rename_i s
    split at e <;> cases e
    rename_i hl
    rw [cstr h]
    exact .inl ⟨_, s.length, rfl, ⟨by rw [str_len, ← sz]; exact hl, (str_len s).symm⟩, q _ _ Grow.refl rep_int⟩
  · cases e
    obtain ⟨a, vs, rfl, t, r⟩ := ctup h
    refine .inl ⟨_, vs.length, rfl, .inr ⟨vs, t.sq, rfl⟩, ?_⟩
    rw [← r.length]
    exact q _ _ Grow.refl rep_int
  · cases e
    obtain ⟨a, vs, rfl, t, r⟩ := clst h
    refine .inl ⟨_, vs.length, rfl, .inl ⟨vs, .of t, rfl⟩, ?_⟩
    rw [← r.length]
    exact q _ _ Grow.refl rep_int
  · cases e
    obtain ⟨a, kvs, rfl, t, k, r⟩ := cdct h
    refine .inr ⟨a, kvs, rfl, t, ?_⟩
    have l := congrArg List.length k
    simp only [List.length_map] at l
    rw [← l]
    exact q _ _ Grow.refl rep_int
  · cases e
    obtain ⟨a, vs, rfl, t, r⟩ := cro h
    refine .inl ⟨_, vs.length, rfl, .inl ⟨vs, t.sq, rfl⟩, ?_⟩
    rw [← r.length]
    exact q _ _ Grow.refl rep_int
/-- tuple, list -/
def rTupD (K : Frg) : List V → Hp → VK → Prop := fun xs H Q => ∃ p ys, xs = [.ref p] ∧ ((SqL K H p ys ∧ ∀ l, H l = none → Q (.ref l) (upd H l (.tup ys))) ∨ (SqT K H p ys ∧ Q (.ref p) H))
theorem ok_tuple : PrimOK K fa (d1 pTuple) (rTupD K) := by
  intro W H ds vs d Q hw hc e q
  obtain ⟨a, v, rfl, h, e⟩ := d1_inv hc e
  cases a <;> simp only [pTuple, reduceCtorEq] at e
  · cases e
    obtain ⟨a, vs, rfl, t, r⟩ := ctup h
    exact ⟨a, vs, rfl, .inr ⟨t.sq, q _ _ Grow.refl (by simpa [Cont] using h)⟩⟩
  · cases e
    obtain ⟨a, vs, rfl, t, r⟩ := clst h
    exact ⟨a, vs, rfl, .inl ⟨.of t, fun p hp => q _ _ (Grow.upd hp) (rep_tup_new hw hp r)⟩⟩
def rLstD (K : Frg) : List V → Hp → VK → Prop := fun xs H Q => ∃ p ys, xs = [.ref p] ∧ (SqL K H p ys ∨ SqT K H p ys) ∧ ∀ l, H l = none → Q (.ref l) (upd H l (.lst ys))
theorem new_list : PrimNew K fa (d1 pList) (rLstD K) := by
  intro W H ds vs l Q hc e q
  obtain ⟨a, v, rfl, h, e⟩ := d1_inv hc e
  cases a <;> simp only [pList, reduceCtorEq] at e
  · cases e
    obtain ⟨a, vs, rfl, t, r⟩ := ctup h
    exact ⟨a, vs, rfl, .inr t.sq, fun p hp => q p vs hp r⟩
  · cases e
    obtain ⟨a, vs, rfl, t, r⟩ := clst h
    exact ⟨a, vs, rfl, .inl (.of t), fun p hp => q p vs hp r⟩
theorem cintsL {a : D} {v : V} {ns : List Int} (h : Cont K fa W H a v) (e : intsL a = some ns) : ∃ p, v = .ref p ∧ SqL K H p (ns.map V.int) := by
  cases a <;> simp only [intsL, reduceCtorEq] at e
  obtain ⟨p, vs, rfl, t, r⟩ := clst h
  rw [r.toInts e] at t
  exact ⟨p, rfl, .of t⟩
theorem cblsL {a : D} {v : V} {ns : List Bool} (h : Cont K fa W H a v) (e : blsL a = some ns) : ∃ p, v = .ref p ∧ SqL K H p (ns.map V.bl) := by
  cases a <;> simp only [blsL, reduceCtorEq] at e
  obtain ⟨p, vs, rfl, t, r⟩ := clst h
  rw [r.toBls e] at t
  exact ⟨p, rfl, .of t⟩
theorem map_inv {α β : Type} {o : Option α} {f : α → β} {d : β} (e : o.map f = some d) : ∃ a, o = some a ∧ f a = d := by
  cases o with
  | none => cases e
  | some a => exact ⟨a, rfl, Option.some.inj e⟩
theorem ok_sum : PrimOK K fa (d1 pSum) (rSum K) := by
  intro W H ds vs d Q hw hc e q
  obtain ⟨a, v, rfl, h, e⟩ := d1_inv hc e
  obtain ⟨ns, k, rfl⟩ := map_inv e
  obtain ⟨p, rfl, t⟩ := cintsL h k
  exact ⟨p, ns, rfl, t, q _ _ Grow.refl rep_int⟩
theorem ok_any : PrimOK K fa (d1 pAny) (rAny K) := by
  intro W H ds vs d Q hw hc e q
  obtain ⟨a, v, rfl, h, e⟩ := d1_inv hc e
  obtain ⟨ns, k, rfl⟩ := map_inv e
  obtain ⟨p, rfl, t⟩ := cblsL h k
  exact ⟨p, ns, rfl, t, q _ _ Grow.refl rep_bl⟩
theorem ok_all : PrimOK K fa (d1 pAll) (rAll K) := by
  intro W H ds vs d Q hw hc e q
  obtain ⟨a, v, rfl, h, e⟩ := d1_inv hc e
  obtain ⟨ns, k, rfl⟩ := map_inv e
  obtain ⟨p, rfl, t⟩ := cblsL h k
  exact ⟨p, ns, rfl, t, q _ _ Grow.refl rep_bl⟩
def rAbs : List V → Hp → VK → Prop := fun xs H Q => ∃ i, xs = [.int i] ∧ Q (.int (if i < 0 then -i else i)) H
theorem ok_abs : PrimOK K fa (primD .abs) rAbs := by
  intro W H ds vs d Q hw hc e q
  obtain ⟨a, v, rfl, h, e⟩ := d1_inv hc e
  obtain ⟨i, rfl, e⟩ := i1_inv e
  cases e
  rw [cint h]
  refine ⟨_, rfl, ?_⟩
  have := q H _ Grow.refl rep_int
  rw [ilt_iff] at this
  simpa using this
def rIntD : List V → Hp → VK → Prop := fun xs H Q => (∃ i, xs = [.int i] ∧ Q (.int i) H) ∨ ∃ k, xs = [.bl k] ∧ Q (.int (if k then 1 else 0)) H
theorem ok_int : PrimOK K fa (d1 pInt) rIntD := by
  intro W H ds vs d Q hw hc e q
  obtain ⟨a, v, rfl, h, e⟩ := d1_inv hc e
  cases a <;> simp only [pInt, reduceCtorEq] at e
  · cases e
    rw [cbl h]
    exact .inr ⟨_, rfl, q _ _ Grow.refl rep_int⟩
  · cases e
    rw [cint h]
    exact .inl ⟨_, rfl, q _ _ Grow.refl rep_int⟩
def rMax2 : List V → Hp → VK → Prop := fun xs H Q => ∃ i j, xs = [.int i, .int j] ∧ Q (.int (if j > i then j else i)) H
def rMin2 : List V → Hp → VK → Prop := fun xs H Q => ∃ i j, xs = [.int i, .int j] ∧ Q (.int (if j < i then j else i)) H
theorem ok_max2 : PrimOK K fa (primD .max2) rMax2 := by
  intro W H ds vs d Q hw hc e q
  obtain ⟨a, b, v, w, rfl, h, h2, e⟩ := d2_inv hc e
  obtain ⟨i, j, rfl, rfl, e⟩ := i2_inv e
  cases e
  rw [cint h, cint h2]
  refine ⟨_, _, rfl, ?_⟩
  have := q H _ Grow.refl rep_int
  rw [ilt_iff] at this
  simpa using this
theorem ok_min2 : PrimOK K fa (primD .min2) rMin2 := by
  intro W H ds vs d Q hw hc e q
  obtain ⟨a, b, v, w, rfl, h, h2, e⟩ := d2_inv hc e
  obtain ⟨i, j, rfl, rfl, e⟩ := i2_inv e
  cases e
  rw [cint h, cint h2]
  refine ⟨_, _, rfl, ?_⟩
  have := q H _ Grow.refl rep_int
  rw [ilt_iff] at this
  simpa using this
/-! greatest and least -/
theorem maxI_spec : ∀ (l : List Int) (m : Int), (maxI m l = m ∨ maxI m l ∈ l) ∧ m ≤ maxI m l ∧ ∀ y, y ∈ l → y ≤ maxI m l
  | [], m => by simp [maxI]
  | y :: ys, m => by
    simp only [maxI, ilt_iff, decide_eq_true_eq]
    by_cases c : m < y
    · rw [if_pos c]
      have h := maxI_spec ys y
      refine ⟨.inr ?_, by omega, fun z hz => ?_⟩
      · rcases h.1 with h1 | h1
        · rw [h1]; exact List.mem_cons_self
        · exact List.mem_cons_of_mem _ h1
      · rcases List.mem_cons.mp hz with rfl | hz
        · exact h.2.1
        · exact h.2.2 _ hz
    · rw [if_neg c]
      have h := maxI_spec ys m
      refine ⟨?_, h.2.1, fun z hz => ?_⟩
      · rcases h.1 with h1 | h1
        · exact .inl h1
        · exact .inr (List.mem_cons_of_mem _ h1)
      · rcases List.mem_cons.mp hz with rfl | hz
        · have := h.2.1; omega
        · exact h.2.2 _ hz
theorem minI_spec : ∀ (l : List Int) (m : Int), (minI m l = m ∨ minI m l ∈ l) ∧ minI m l ≤ m ∧ ∀ y, y ∈ l → minI m l ≤ y
  | [], m => by simp [minI]
  | y :: ys, m => by
    simp only [minI, ilt_iff, decide_eq_true_eq]
    by_cases c : y < m
    · rw [if_pos c]
      have h := minI_spec ys y
      refine ⟨.inr ?_, by omega, fun z hz => ?_⟩
      · rcases h.1 with h1 | h1
        · rw [h1]; exact List.mem_cons_self
        · exact List.mem_cons_of_mem _ h1
      · rcases List.mem_cons.mp hz with rfl | hz
        · exact h.2.1
        · exact h.2.2 _ hz
    · rw [if_neg c]
      have h := minI_spec ys m
      refine ⟨?_, h.2.1, fun z hz => ?_⟩
      · rcases h.1 with h1 | h1
        · exact .inl h1
        · exact .inr (List.mem_cons_of_mem _ h1)
      · rcases List.mem_cons.mp hz with rfl | hz
        · have := h.2.1; omega
        · exact h.2.2 _ hz
/-! sorted ints -/
theorem insI_perm (x : Int) : ∀ l, (insI x l).Perm (x :: l)
  | [] => List.Perm.refl _
  | y :: ys => by
    unfold insI
    split
    · exact ((insI_perm x ys).cons y).trans (List.Perm.swap x y ys)
    · exact List.Perm.refl _
theorem sortI_perm : ∀ l, (sortI l).Perm l
  | [] => List.Perm.refl _
  | x :: xs => (insI_perm x (sortI xs)).trans ((sortI_perm xs).cons x)
theorem insI_sorted (x : Int) : ∀ l, l.Pairwise (· ≤ ·) → (insI x l).Pairwise (· ≤ ·)
  | [], _ => List.pairwise_singleton _ _
  | y :: ys, h => by
    rw [List.pairwise_cons] at h
    unfold insI
    split
    · rename_i c
      rw [ilt_iff, decide_eq_true_eq] at c
      rw [List.pairwise_cons]
      refine ⟨fun z hz => ?_, insI_sorted x ys h.2⟩
      rcases List.mem_cons.mp ((insI_perm x ys).mem_iff.mp hz) with rfl | hz
      · omega
      · exact h.1 z hz
    · rename_i c
      rw [ilt_iff, decide_eq_true_eq] at c
      rw [List.pairwise_cons]
      refine ⟨fun z hz => ?_, List.pairwise_cons.mpr h⟩
      rcases List.mem_cons.mp hz with rfl | hz
      · omega
      · have := h.1 z hz; omega
theorem sortI_sorted : ∀ l, (sortI l).Pairwise (· ≤ ·)
  | [] => List.Pairwise.nil
  | x :: xs => insI_sorted x _ (sortI_sorted xs)
theorem sorted_unique {l m : List Int} (h1 : l.Pairwise (· ≤ ·)) (h2 : m.Pairwise (· ≤ ·)) (p : l.Perm m) : l = m :=
  List.Perm.eq_of_pairwise (le := (· ≤ ·)) (fun a b _ _ h h' => Int.le_antisymm h h') h1 h2 p
theorem new_sorted : PrimNew K fa (d1 pSorted) (rSortedI K) := by
  intro W H ds vs l Q hc e q
  obtain ⟨a, v, rfl, h, e⟩ := d1_inv hc e
  obtain ⟨ns, k, e⟩ := map_inv e
  cases e
  obtain ⟨p, rfl, t⟩ := cintsL h k
  refine ⟨p, ns, rfl, t, fun ns' p2 h1 h2 hp => ?_⟩
  have : ns' = sortI ns := sorted_unique h2 (sortI_sorted ns) (h1.trans (sortI_perm ns).symm)
  rw [this]
  exact q p2 _ hp Reps.of_ints
end
end Py
end
section
set_option Elab.async false
set_option linter.all false
set_option maxRecDepth 100000
namespace Py
open PySem L2
/-! ### which term belongs to which tree -/
/-- what a program's text has: the defs' names, the module's constants -/
structure Tx where
  nm : List Str
  con : List (Str × D)
  cm : Bool
  fm : Bool
def lkB (sc : Scope) (x : Str) (k : NameKind) : Bool := decide (List.lookup x sc.names = some k)
def glB (sc : Scope) (x : Str) : Bool := lkB sc x .globalImplicit
def visB (sc : Scope) (x : Str) : Bool := lkB sc x .local || (lkB sc x .cell || lkB sc x .free)
def isS (x : Str) (s : String) : Bool := decide (x = Str.ofString s)
/-- the scope of a comprehension within sc -/
def rl (scope sc : Scope) : Scope := relabel scope { scope := sc, locals := 0, globals := 0, cells := [] }
def isTupE : Expr → Bool
  | .Tuple _ _ _ => true
  | _ => false
/-- enumerate stands only behind a tuple of names -/
def enI : Ex → Bool
  | .prim .enum _ => true
  | .enumE _ => true
  | _ => false
def noStar : Expr → Bool
  | .Starred _ _ => false
  | _ => true
def plainB : Expr → Bool
  | .Slice _ _ _ _ => false
  | _ => true
def noCallB : Expr → Bool
  | .Call _ _ _ _ => false
  | _ => true
def noSetB : Expr → Bool
  | .Set _ _ _ => false
  | _ => true
def testB : Expr → Bool
  | .BoolOp _ _ _ => false
  | .UnaryOp _ _ _ => false
  | .IfExp _ _ _ _ => false
  | .Compare _ _ _ _ => false
  | _ => true
def dbg (x : Str) : Bool := isS x "__debug__"
def boOp : BOp → Operator → Bool
  | .add, .Add => true | .sub, .Sub => true | .mul, .Mult => true | .fdiv, .FloorDiv => true | .mod, .Mod => true | .pow, .Pow => true
  | .shl, .LShift => true | .shr, .RShift => true | .band, .BitAnd => true | .bor, .BitOr => true | .bxor, .BitXor => true
  | _, _ => false
def coOp : COp → CmpOp → Bool
  | .eq, .Eq => true | .ne, .NotEq => true | .lt, .Lt => true | .le, .LtE => true | .gt, .Gt => true | .ge, .GtE => true
  | .is, .Is => true | .isnot, .IsNot => true | .isin, .In => true | .notin, .NotIn => true
  | _, _ => false
/-- the built-in functions that are called by name -/
def pName : Prim → Option String
  | .len => some "len" | .tuple => some "tuple" | .list => some "list" | .sum => some "sum" | .any => some "any" | .all => some "all"
  | .min1 => some "min" | .max1 => some "max" | .min2 => some "min" | .max2 => some "max" | .sorted => some "sorted" | .abs => some "abs" | .int => some "int"
  | _ => .none
/-- isinstance's second part -/
def tyName : Ty → String
  | .int => "int" | .bool => "bool" | .str => "str" | .tuple => "tuple" | .list => "list"
def isTys : Prim → Option (List Ty)
  | .isint => some [.int] | .isbool => some [.bool] | .isstr => some [.str] | .istuple => some [.tuple] | .islist => some [.list]
  | .isseq => some [.list, .tuple] | .isintstr => some [.int, .str]
  | _ => .none
def cstB (c : Const) : D → Bool
  | .none => match c with | .none => true | _ => false
  | .bl b => match c with | .bool b' => b == b' | _ => false
  | .int i => match c with | .int i' => ieq i i' | _ => false
  | .str s => match c with | .str s' => decide (s' = ⟨s.toArray⟩) | _ => false
  | _ => false
def tyB (sc : Scope) : Ty → Expr → Bool
  | t, .Name x _ => isS x (tyName t) && glB sc x
  | _, _ => false
def tysB (sc : Scope) : List Ty → List Expr → Bool
  | [], [] => true
  | t :: ts, e :: es => tyB sc t e && (noStar e && tysB sc ts es)
  | _, _ => false
def isaB (sc : Scope) : List Ty → Expr → Bool
  | [t], e => tyB sc t e
  | ts, .Tuple es _ _ => tysB sc ts es && decide (2 ≤ ts.length)
  | _, _ => false
def dEq : D → D → Bool
  | .none, .none => true
  | .bl a, .bl b => a == b
  | .int a, .int b => ieq a b
  | .str a, .str b => seq a b
  | _, _ => false
def conB : List (Str × D) → Str → D → Bool
  | [], _, _ => false
  | p :: r, x, d => if p.1 = x then dEq p.2 d else conB r x d
mutual
def slots : Ex → List Nat
  | .var i => [i]
  | .tup ts => slotss ts
  | _ => []
def slotss : Ex → List Nat
  | .cons t ts => slots t ++ slotss ts
  | _ => []
end
def slotsIn (tg : Ex) (own : List Nat) : Bool := (slots tg).all fun i => own.contains i
/-! targets: names, tuples of them -/
mutual
def agTg (N : List Str) (sc : Scope) (fn : Str → Bool) : Ex → Expr → Bool
  | .var i, .Name x _ => decide (N[i]? = some x) && ((lkB sc x .cell && fn x) || lkB sc x .local)
  | .tup ts, .Tuple es _ _ => agTgs N sc fn ts es
  | _, _ => false
def agTgs (N : List Str) (sc : Scope) (fn : Str → Bool) : Ex → List Expr → Bool
  | .nil, [] => true
  | .cons t ts, e :: es => agTg N sc fn t e && (noStar e && agTgs N sc fn ts es)
  | _, _ => false
end
def ownOf (N : List Str) (own : List Nat) : List (Str × Nat) := own.map fun i => (N.getD i "", i)
def fnOf (scope : Scope) : Str → Bool := fun x => List.lookup x scope.names == some NameKind.cell
/-- a built-in function or a method: LB the arguments' check, EB that of the sole one -/
def rangeB (sc : Scope) (n : Nat) (LB : List Expr → Bool) : List Expr → Bool
  | [.Call (.Name y _) es [] _] => isS y "range" && (glB sc y && (!dbg y && (decide (es.length = n) && LB es)))
  | _ => false
def setArgB (sc : Scope) (LB : List Expr → Bool) : List Expr → Bool
  | [.Call (.Name y _) es [] _] => isS y "set" && (glB sc y && (!dbg y && (decide (es.length = 1) && LB es)))
  | _ => false
def primNB (cm fm : Bool) (sc : Scope) (sr : Bool) (p : Prim) (LB : List Expr → Bool) (x : Str) (es : List Expr) : Bool :=
  match pName p with
  | some s => isS x s && (decide (es ≠ []) && LB es)
  | .none => match isTys p with
    | some ts => isS x "isinstance" && (match es with
      | [e, t] => noStar t && (isaB sc ts t && LB [e])
      | _ => false)
    | .none => match p with
      | .comb => cm && (isS x "comb" && (decide (es.length = 2) && LB es))
      | .factorial => fm && (isS x "factorial" && (decide (es.length = 1) && LB es))
      | .sortedSet => isS x "sorted" && setArgB sc LB es
      | .lrange1 => isS x "list" && rangeB sc 1 LB es
      | .lrange2 => isS x "list" && rangeB sc 2 LB es
      | .trange1 => isS x "tuple" && rangeB sc 1 LB es
      | .trange2 => isS x "tuple" && rangeB sc 2 LB es
      | .enum => sr && (isS x "enumerate" && (decide (es.length = 1) && LB es))
      | .range1 => sr && (isS x "range" && (decide (es.length = 1) && LB es))
      | .range2 => sr && (isS x "range" && (decide (es.length = 2) && LB es))
      | _ => false
def methB : Prim → Str → Nat → Bool
  | .bitlen, m, n => isS m "bit_length" && decide (n = 0)
  | .index, m, n => isS m "index" && decide (n = 1)
  | _, _, _ => false
def primB (cm fm : Bool) (sc : Scope) (sr : Bool) (p : Prim) (LB : List Expr → Bool) : Expr → List Expr → Pos → Bool
  | .Name x _, es, _ => glB sc x && (!dbg x && primNB cm fm sc sr p LB x es)
  | _, _, _ => false
/-- what stands as a test -/
def tsB : Ex → Bool
  | .ite _ _ _ => false
  | .neg _ => false
  | .and a b => tsB a && tsB b
  | .or a b => tsB a && tsB b
  | .not a => tsB a
  | _ => true
def isCT : Ex → Bool
  | .cst (.bl true) => true
  | _ => false
mutual
def agE (tx : Tx) (N : List Str) : Ex → Scope → (Str → Bool) → Bool → Expr → Bool
  | .var i, sc, _, _, .Name x _ => decide (N[i]? = some x) && (visB sc x && (!dbg x && !isS x "__classdict__"))
  | .cst d, sc, _, _, e => match e with
    | .Constant c _ _ => cstB c d
    | .Name x _ => glB sc x && (!dbg x && (match d with
      | .fn j => decide (tx.nm[j]? = some x)
      | d => conB tx.con x d))
    | _ => false
  | .bin op a b, sc, fn, _, .BinOp l op' r _ => boOp op op' && (agE tx N a sc fn false l && agE tx N b sc fn false r)
  | .neg a, sc, fn, _, .UnaryOp u l _ => (match u with | .USub => true | _ => false) && agE tx N a sc fn false l
  | .cmp op a b, sc, fn, _, .Compare l ops rs _ => match ops, rs with
    | [op'], [r] => coOp op op' && (!behindInMarks op' r && (agE tx N a sc fn false l && agE tx N b sc fn false r))
    | _, _ => false
  | .chain op op2 a b c, sc, fn, _, .Compare l ops rs _ => match ops, rs with
    | [op', op2'], [r, r2] => coOp op op' && (coOp op2 op2' && (!lastMarks [op', op2'] [r, r2] && (agE tx N a sc fn false l && (agE tx N b sc fn false r && agE tx N c sc fn false r2))))
    | _, _ => false
  | .and a b, sc, fn, _, .BoolOp o vs p => (match o with | .And => true | _ => false) && (match vs with
    | [l, r] => agE tx N a sc fn false l && agE tx N b sc fn false r
    | l :: r :: q :: qs => agE tx N a sc fn false l && agE tx N b sc fn false (.BoolOp .And (r :: q :: qs) p)
    | _ => false)
  | .or a b, sc, fn, _, .BoolOp o vs p => (match o with | .Or => true | _ => false) && (match vs with
    | [l, r] => agE tx N a sc fn false l && agE tx N b sc fn false r
    | l :: r :: q :: qs => agE tx N a sc fn false l && agE tx N b sc fn false (.BoolOp .Or (r :: q :: qs) p)
    | _ => false)
  | .not a, sc, fn, _, .UnaryOp u l _ => (match u with | .Not => true | _ => false) && agE tx N a sc fn false l
  | .ite c a b, sc, fn, _, .IfExp k l r _ => tsB c && agE tx N c sc fn false k && (agE tx N a sc fn false l && agE tx N b sc fn false r)
  | .tup as, sc, fn, _, .Tuple es _ _ => agL tx N as sc fn es
  | .lst as, sc, fn, _, .List es _ => agL tx N as sc fn es
  | .ix a b, sc, fn, _, .Subscript l r _ => plainB r && (agE tx N a sc fn false l && agE tx N b sc fn false r)
  | .slc a lo hi, sc, fn, _, .Subscript l s _ => match s with
    | .Slice elo ehi .none _ => agE tx N a sc fn false l && ((match elo with
      | .none => isCN lo
      | some e => !isCN lo && agE tx N lo sc fn false e) && (match ehi with
      | .none => isCN hi
      | some e => !isCN hi && agE tx N hi sc fn false e))
    | _ => false
  | .call j as, sc, fn, _, .Call f es kws _ => match f, kws with
    | .Name x _, [] => decide (tx.nm[j]? = some x) && (glB sc x && (!dbg x && agL tx N as sc fn es))
    | _, _ => false
  | .calv i n as, sc, fn, _, .Call f es kws _ => match f, kws with
    | .Name x _, [] => decide (N[i]? = some x) && (decide (n ≤ tx.nm.length) && (decide (es ≠ []) && (visB sc x && (!dbg x && (!isS x "__classdict__" && agL tx N as sc fn es)))))
    | _, _ => false
  | .enumE a, sc, fn, sr, .Call f es kws _ => match f, es, kws with
    | .Name x _, [e], [] => sr && (isS x "enumerate" && (glB sc x && (!dbg x && (noStar e && agE tx N a sc fn false e))))
    | _, _, _ => false
  | .dict ks vs, _, _, _, .Dict kes ves _ => match ks, vs, kes, ves with
    | .nil, .nil, [], [] => true
    | _, _, _, _ => false
  | .prim p as, sc, fn, sr, .Call f es kws pos => kws.isEmpty && primB tx.cm tx.fm sc sr p (agL tx N as sc fn) f es pos
  | .meth p o as, sc, fn, _, .Call f es kws pos => match f, kws with
    | .Attribute eo m apos, [] => noCallB eo && ((apos.endLine == pos.line) && (methB p m es.length && (agE tx N o sc fn false eo && agL tx N as sc fn es)))
    | _, _ => false
  | .comp elt own tg src c, sc, fn, _, .ListComp e gs scope _ => match gs with
    | [⟨t, it, ifs, 0⟩] => blkC N sc scope (ownOf N own) && (slotsIn tg own && ((!enI src || isTupE t) && agTg N (rl scope sc) (fnOf scope) tg t && (noSetB it && (agE tx N src sc fn true it && (agE tx N elt (rl scope sc) (fnOf scope) false e && (match ifs with
      | [] => isCT c
      | [i] => tsB c && agE tx N c (rl scope sc) (fnOf scope) false i
      | _ => false))))))
    | _ => false
  | _, _, _, _, _ => false
def agL (tx : Tx) (N : List Str) : Ex → Scope → (Str → Bool) → List Expr → Bool
  | .nil, _, _, [] => true
  | .cons a as, sc, fn, e :: es => noStar e && (agE tx N a sc fn false e && agL tx N as sc fn es)
  | _, _, _, _ => false
end
end Py
end
section
set_option Elab.async false
set_option linter.all false
set_option maxRecDepth 100000
namespace Py
open PySem L2
/-! ### readings of the parts -/
section
variable {K : Frg} {B : Tab} {U : Addr → Prop} {Wx : WX} {cf : CallF} {σ : L2.St} {H : Hp} {ρ : List Addr} {env : Env} {st : Store}
theorem Post.here {α : Type} {a : α} {C : α → List Addr → Store → Hp → Prop} (r : RelS K B.fa U ρ st H) (h : Post K B U Wx σ ρ st H (.ok a st) C) : C a ρ st H := h ρ H r Ext.refl
theorem Post.grown {α : Type} {a : α} {C : α → List Addr → Store → Hp → Prop} {H' : Hp} (r : RelS K B.fa U ρ st H) (g : Grow H H') (h : Post K B U Wx σ ρ st H (.ok a st) C) : C a ρ st H' := h ρ H' (r.grow g) g.ext
/-- the end of an operator -/
theorem Post.fin {o : Option D} {Q : VK} {p : D → Prop} (r : RelS K B.fa U ρ st H) (h : Post K B U Wx σ ρ st H (Py.opt st o) (CE1 K B U Q)) :
    ∃ d, o = some d ∧ ∀ H' v, Grow H H' → Rep K B.fa (Wu U ρ st) H' d v → Q v H' := by
  obtain ⟨d, rfl, q⟩ := h.opt r
  exact ⟨d, rfl, fun H' v g hv => q ρ H' (r.grow g) g.ext v (VRel.of hv)⟩
theorem gl_some {o : Option D} {d : D} (h : gl o = some d) : o = some d := by
  cases o with
  | none => cases h
  | some a => cases a <;> first | exact h | (cases h)
theorem Post.fing {o : Option D} {Q : VK} {p : D → Prop} (r : RelS K B.fa U ρ st H) (h : Post K B U Wx σ ρ st H (Py.opg st o) (CE1 K B U Q)) :
    ∃ d, o = some d ∧ ∀ H' v, Grow H H' → Rep K B.fa (Wu U ρ st) H' d v → Q v H' := by
  obtain ⟨d, e, q⟩ := Post.fin (p := p) r h
  exact ⟨d, gl_some e, q⟩
theorem re_var {i : Nat} {Q : VK} (h : RE K B Wx cf (.var i) σ H Q) : tVar i σ H Q := by
  obtain ⟨U, ρ, env, st, r, q⟩ := h
  simp only [evE] at q
  cases e : env[i]? with
  | none => rw [e] at q; exact (show False from q).elim
  | some o =>
    cases o with
    | none => rw [e] at q; exact (show False from q).elim
    | some d =>
      rw [e] at q
      obtain ⟨v, q1, q2⟩ := r.env i d e
      exact ⟨v, q1, (q.here r.toRelS) v q2⟩
theorem re_cst {d : D} {v : V} {Q : VK} (hd : ∀ W H, Rep K B.fa W H d v) (h : RE K B Wx cf (.cst d) σ H Q) : tC v σ H Q := by
  obtain ⟨U, ρ, env, st, r, q⟩ := h
  simp only [evE] at q
  exact (q.here r.toRelS) v (VRel.of (hd _ _))
theorem re_bin {op : BOp} {a b : Ex} {Q : VK} (h : RE K B Wx cf (.bin op a b) σ H Q) : tOp (binR K op) (RE K B Wx cf a) (RE K B Wx cf b) σ H Q := by
  obtain ⟨U, ρ, env, st, r, q⟩ := h
  simp only [evE] at q
  refine RE.first r q fun x ρ1 st1 H1 v1 r1 x1 h1 q => RE.first r1 q fun y ρ2 st2 H2 v2 r2 x2 h2 q => ?_
  obtain ⟨d, e, q⟩ := q.fing (p := fun _ => True) r2.toRelS
  exact ok_bin op _ _ _ _ _ _ _ _ (fun a w => r2.toRelS.wrThere w) (r2.toRelS.cont (x2.vrel h1)) (r2.toRelS.cont h2) e q
theorem re_neg {a : Ex} {Q : VK} (h : RE K B Wx cf (.neg a) σ H Q) : tUn (rU fun i => .int (-i)) (RE K B Wx cf a) σ H Q := by
  obtain ⟨U, ρ, env, st, r, q⟩ := h
  simp only [evE] at q
  refine RE.first r q fun x ρ1 st1 H1 v1 r1 x1 h1 q => ?_
  cases x <;> try exact (show False from q).elim
  rename_i i
  refine ⟨i, cint (r1.toRelS.cont h1), (q.here r1.toRelS) _ (VRel.of rep_int)⟩
theorem re_cmp {op : COp} {a b : Ex} {Q : VK} (h : RE K B Wx cf (.cmp op a b) σ H Q) : tOp (cmpR K B.fa op) (RE K B Wx cf a) (RE K B Wx cf b) σ H Q := by
  obtain ⟨U, ρ, env, st, r, q⟩ := h
  simp only [evE] at q
  refine RE.first r q fun x ρ1 st1 H1 v1 r1 x1 h1 q => RE.first r1 q fun y ρ2 st2 H2 v2 r2 x2 h2 q => ?_
  obtain ⟨d, e, q⟩ := q.fin (p := fun _ => True) r2.toRelS
  exact ok_cmp op _ _ _ _ _ _ _ _ (fun a w => r2.toRelS.wrThere w) (r2.toRelS.cont (x2.vrel h1)) (r2.toRelS.cont h2) e q
/-- a comparison's answer -/
theorem cmp_bl {op : COp} {x y : D} {v1 v2 : V} {W : Addr → Prop} {R : Bool → Hp → Prop} {b : Bool} (hw : ∀ a, W a → ∃ o, H a = some o) (h1 : Cont K B.fa W H x v1) (h2 : Cont K B.fa W H y v2) (e : cmpD op x y = some b) (q : ∀ H', Grow H H' → R b H') :
    cmpR K B.fa op v1 v2 H fun z H' => ∃ k, z = .bl k ∧ R k H' :=
  ok_cmp op W H x y v1 v2 (.bl b) _ hw h1 h2 (by show Option.map D.bl (cmpD op x y) = _; rw [e]; rfl) fun H' v g hv => ⟨b, by simpa [Rep] using hv, q H' g⟩
theorem re_chain {op op' : COp} {a b c : Ex} {Q : VK} (h : RE K B Wx cf (.chain op op' a b c) σ H Q) : tChain (cmpR K B.fa op) (cmpR K B.fa op') (RE K B Wx cf a) (RE K B Wx cf b) (RE K B Wx cf c) σ H Q := by
  obtain ⟨U, ρ, env, st, r, q⟩ := h
  simp only [evE] at q
  refine RE.first r q fun x ρ1 st1 H1 v1 r1 x1 h1 q => RE.first r1 q fun y ρ2 st2 H2 v2 r2 x2 h2 q => ?_
  cases e : cmpD op (resolve st2 x) (resolve st2 y) with
  | none => rw [e] at q; exact (show False from q).elim
  | some k =>
    rw [e] at q
    refine cmp_bl (fun a w => r2.toRelS.wrThere w) (r2.toRelS.cont (x2.vrel h1)) (r2.toRelS.cont h2) e fun H3 g => ?_
    have r3 := r2.grow g
    have h2 := (g.ext (ρ := ρ2) (st := st2)).vrel h2
    cases k with
    | true =>
      rw [if_pos rfl]
      refine RE.first r3 (Post.shift g.ext q) fun z ρ4 st4 H4 v4 r4 x4 h4 q => ?_
      obtain ⟨d, e, q⟩ := q.fin (p := fun _ => True) r4.toRelS
      exact ok_cmp op' _ _ _ _ _ _ _ _ (fun a w => r4.toRelS.wrThere w) (r4.toRelS.cont (x4.vrel h2)) (r4.toRelS.cont h4) e q
    | false =>
      rw [if_neg Bool.false_ne_true]
      exact (q.grown r2.toRelS g) _ (VRel.of rep_bl)
theorem re_and {a b : Ex} {Q : VK} (h : RE K B Wx cf (.and a b) σ H Q) : tAndT K (RE K B Wx cf a) (RE K B Wx cf b) σ H Q := by
  obtain ⟨U, ρ, env, st, r, q⟩ := h
  simp only [evE] at q
  refine RE.first r q fun x ρ1 st1 H1 v1 r1 x1 h1 q => ?_
  cases e : truth (resolve st1 x) with
  | none => rw [e] at q; exact (show False from q).elim
  | some k =>
    rw [e] at q
    refine ⟨k, truth_ok (r1.toRelS.cont h1) e, ?_⟩
    cases k with
    | true => rw [if_pos rfl]; exact ⟨U, ρ1, env, st1, r1, q⟩
    | false => rw [if_neg Bool.false_ne_true]; exact (q.here r1.toRelS) _ h1
theorem re_or {a b : Ex} {Q : VK} (h : RE K B Wx cf (.or a b) σ H Q) : tOrT K (RE K B Wx cf a) (RE K B Wx cf b) σ H Q := by
  obtain ⟨U, ρ, env, st, r, q⟩ := h
  simp only [evE] at q
  refine RE.first r q fun x ρ1 st1 H1 v1 r1 x1 h1 q => ?_
  cases e : truth (resolve st1 x) with
  | none => rw [e] at q; exact (show False from q).elim
  | some k =>
    rw [e] at q
    refine ⟨k, truth_ok (r1.toRelS.cont h1) e, ?_⟩
    cases k with
    | true => rw [if_pos rfl]; exact (q.here r1.toRelS) _ h1
    | false => rw [if_neg Bool.false_ne_true]; exact ⟨U, ρ1, env, st1, r1, q⟩
theorem re_not {a : Ex} {Q : VK} (h : RE K B Wx cf (.not a) σ H Q) : tNotT K (RE K B Wx cf a) σ H Q := by
  obtain ⟨U, ρ, env, st, r, q⟩ := h
  simp only [evE] at q
  refine RE.first r q fun x ρ1 st1 H1 v1 r1 x1 h1 q => ?_
  obtain ⟨d, e, q⟩ := q.fin (p := fun _ => True) r1.toRelS
  obtain ⟨k, e1, rfl⟩ := map_inv e
  exact ⟨k, truth_ok (r1.toRelS.cont h1) e1, q _ _ Grow.refl rep_bl⟩
theorem re_ite {c a b : Ex} {Q : VK} (h : RE K B Wx cf (.ite c a b) σ H Q) : tIf (RT K B Wx cf c) (RE K B Wx cf a) (RE K B Wx cf b) σ H Q := by
  obtain ⟨U, ρ, env, st, r, q⟩ := h
  simp only [evE] at q
  have q' : Post K B U Wx σ ρ st H ((evE cf c env st).bind fun x st => match truth (resolve st x) with | some k => (if k = true then evE cf a env st else evE cf b env st) | .none => .stuck) (CE1 K B U Q) := by
    have : (fun (x : D) (st : Store) => match truth (resolve st x) with | some true => evE cf a env st | some false => evE cf b env st | .none => .stuck) = (fun x st => match truth (resolve st x) with | some k => (if k = true then evE cf a env st else evE cf b env st) | .none => .stuck) := by
      funext x st
      cases truth (resolve st x) with
      | none => rfl
      | some k => cases k <;> rfl
    rw [← this]
    exact q
  refine RT.first r q' fun k ρ1 st1 H1 r1 x1 q => ?_
  cases k with
  | true => exact ⟨U, ρ1, env, st1, r1, q⟩
  | false => exact ⟨U, ρ1, env, st1, r1, q⟩
theorem ra_nil {Q : List V → Hp → Prop} (h : RA K B Wx cf .nil σ H Q) : tNil σ H Q := by
  obtain ⟨U, ρ, env, st, r, q⟩ := h
  simp only [evL] at q
  exact (q.here r.toRelS) [] rfl
theorem ra_cons {a as : Ex} {Q : List V → Hp → Prop} (h : RA K B Wx cf (.cons a as) σ H Q) : tCons (RE K B Wx cf a) (RA K B Wx cf as) σ H Q := by
  obtain ⟨U, ρ, env, st, r, q⟩ := h
  simp only [evL] at q
  refine RE.first r q fun x ρ1 st1 H1 v1 r1 x1 h1 q => RA.first r1 q fun l ρ2 st2 H2 vs r2 x2 h2 q => ?_
  exact (q.here r2.toRelS) _ ⟨v1, vs, rfl, x2.vrel h1, h2⟩
/-- a value that escapes -/
theorem esc_ok {β : Type} {d : D} {v : V} {g : D → Store → Out β} {C : β → List Addr → Store → Hp → Prop} (r : Rel K B.fa U ρ env st σ H) (h : VRel K B.fa ρ (Wu U ρ st) H d v) (q : Post K B U Wx σ ρ st H ((esc st d).bind g) C) :
    ∃ st', Rel K B.fa U ρ env st' σ H ∧ Ext ρ st H ρ st' H ∧ Rep K B.fa (Wu U ρ st') H (resolve st d) v ∧ Post K B U Wx σ ρ st' H (g (resolve st d) st') C := by
  cases d with
  | loc l =>
    obtain ⟨a, rfl, ea⟩ := h
    obtain ⟨c, e2, hc⟩ := r.toRelS.at ea
    have nl : isLoc c.d = false := by
      cases k : c.d with
      | loc m => rw [k] at hc; exact (show False from hc).elim
      | _ => rfl
    simp only [esc, e2, resolve, nl] at q ⊢
    obtain ⟨r', x⟩ := r.freeze e2
    refine ⟨_, r', x, ?_, Post.shift x q⟩
    have nw : ¬ Wu U ρ (st.set l ⟨true, c.d⟩) a := by
      rintro (u | w)
      · exact r.ud a u (List.mem_of_getElem? ea)
      · exact ((wr_freeze r.nd e2).mp w).2 ea
    have hc' := hc.step x.step rfl
    cases k : c.d with
    | lst ds => rw [k] at hc' nw; obtain ⟨vs, h1, h2⟩ := hc'; simp only [Rep]; exact ⟨a, vs, rfl, ⟨nw, h1⟩, h2⟩
    | dct ks ds => rw [k] at hc' nw; obtain ⟨vs, h1, h2, h3⟩ := hc'; simp only [Rep]; exact ⟨a, vs, rfl, ⟨nw, h1⟩, h2, h3⟩
    | _ => rw [k] at hc'; exact (show False from hc').elim
  | _ => exact ⟨st, r, Ext.refl, h, q⟩
theorem escL_ok {β : Type} {C : β → List Addr → Store → Hp → Prop} : ∀ {ds : List D} {vs : List V} {st : Store} {g : List D → Store → Out β}, Rel K B.fa U ρ env st σ H → VRels K B.fa ρ (Wu U ρ st) H ds vs → Post K B U Wx σ ρ st H ((escL ds st).bind g) C →
    ∃ ds' st', Rel K B.fa U ρ env st' σ H ∧ Ext ρ st H ρ st' H ∧ Reps K B.fa (Wu U ρ st') H ds' vs ∧ Post K B U Wx σ ρ st' H (g ds' st') C
  | [], vs, st, g, r, h, q => ⟨[], st, r, Ext.refl, by simpa [VRels, Reps] using h, q⟩
  | d :: ds, vs, st, g, r, h, q => by
    obtain ⟨v, ws, rfl, h1, h2⟩ := h
    simp only [escL] at q
    have a1 : (((esc st d).bind fun d' st1 => (escL ds st1).bind fun r st2 => .ok (d' :: r) st2).bind g) = (esc st d).bind fun d' st1 => (escL ds st1).bind fun r st2 => g (d' :: r) st2 := by
      cases esc st d with
      | ok a s =>
        show ((escL ds s).bind fun r st2 => Out.ok (a :: r) st2).bind g = (escL ds s).bind fun r st2 => g (a :: r) st2
        cases escL ds s <;> rfl
      | _ => rfl
    rw [a1] at q
    obtain ⟨st1, r1, x1, p1, q⟩ := esc_ok r h1 q
    obtain ⟨ds', st2, r2, x2, p2, q⟩ := escL_ok r1 (x1.vrels h2) q
    exact ⟨_, st2, r2, x1.trans x2, by simp only [Reps]; exact ⟨v, ws, rfl, x2.step.rep _ _ p1, p2⟩, q⟩
theorem bind_assoc {α β γ : Type} (o : Out α) (f : α → Store → Out β) (g : β → Store → Out γ) : (o.bind f).bind g = o.bind fun a st => (f a st).bind g := by
  cases o <;> rfl
theorem re_tup {as : Ex} {Q : VK} (h : RE K B Wx cf (.tup as) σ H Q) : tTup (RA K B Wx cf as) σ H Q := by
  obtain ⟨U, ρ, env, st, r, q⟩ := h
  simp only [evE] at q
  refine RA.first r q fun l ρ1 st1 H1 vs r1 x1 h1 q => ?_
  obtain ⟨ds, st2, r2, x2, p, q⟩ := escL_ok r1 h1 q
  split at q
  case isFalse => exact (show False from q).elim
  rename_i hl
  refine ⟨by rw [← p.length, ← sz]; exact hl, fun pp hp => ?_⟩
  exact (q.grown r2.toRelS (Grow.upd hp)) _ (VRel.of (rep_tup_new (fun a w => r2.toRelS.wrThere w) hp p))
theorem re_lst {as : Ex} {Q : VK} (h : RE K B Wx cf (.lst as) σ H Q) : tLst (RA K B Wx cf as) σ H Q := by
  obtain ⟨U, ρ, env, st, r, q⟩ := h
  simp only [evE] at q
  refine RA.first r q fun l ρ1 st1 H1 vs r1 x1 h1 q => ?_
  obtain ⟨ds, st2, r2, x2, p, q⟩ := escL_ok r1 h1 q
  split at q
  case isFalse => exact (show False from q).elim
  rename_i hl
  refine ⟨by rw [← p.length, ← sz]; exact hl, fun pp hp => ?_⟩
  exact (q.grown r2.toRelS (Grow.upd hp)) _ (VRel.of (rep_lst_new (fun a w => r2.toRelS.wrThere w) hp p))
/-- a new list that is to be a cell -/
abbrev CN (U : Addr → Prop) (env : Env) (σ : L2.St) (Q : VK) : D → List Addr → Store → Hp → Prop :=
  fun d ρ' st' H' => ∀ p H2, Rel K B.fa U (ρ' ++ [p]) env (st' ++ [⟨false, d⟩]) σ H2 → Ext ρ' st' H' (ρ' ++ [p]) (st' ++ [⟨false, d⟩]) H2 → Q (.ref p) H2
theorem CN.use {ds : List D} {vs : List V} {p : Addr} {Q : VK} (r : Rel K B.fa U ρ env st σ H) (hp : H p = none) (h : Reps K B.fa (Wu U ρ st) H ds vs) (q : Post K B U Wx σ ρ st H (.ok (.lst ds) st) (CN (K := K) (B := B) U env σ Q)) : Q (.ref p) (upd H p (.lst vs)) := by
  obtain ⟨r2, x2⟩ := r.push (o := .lst vs) (d := .lst ds) hp fun W' H' sp e => ⟨vs, e, sp.reps _ _ h⟩
  exact (q.here r.toRelS) p _ r2 x2
theorem rn_lst {as : Ex} {Q : VK} (h : RN K B Wx cf (.lst as) σ H Q) : tLst (RA K B Wx cf as) σ H Q := by
  obtain ⟨U, ρ, env, st, r, q⟩ := h
  simp only [evE] at q
  rw [bind_assoc] at q
  refine RA.first r q fun l ρ1 st1 H1 vs r1 x1 h1 q => ?_
  rw [bind_assoc] at q
  obtain ⟨ds, st2, r2, x2, p, q⟩ := escL_ok r1 h1 q
  split at q
  case isFalse => exact (show False from q).elim
  rename_i hl
  refine ⟨by rw [← p.length, ← sz]; exact hl, fun pp hp => ?_⟩
  exact CN.use r2 hp p q
theorem re_ix {a b : Ex} {Q : VK} (h : RE K B Wx cf (.ix a b) σ H Q) : tOp (rIxG K) (RE K B Wx cf a) (RE K B Wx cf b) σ H Q := by
  obtain ⟨U, ρ, env, st, r, q⟩ := h
  simp only [evE] at q
  refine RE.first r q fun x ρ1 st1 H1 v1 r1 x1 h1 q => RE.first r1 q fun y ρ2 st2 H2 v2 r2 x2 h2 q => ?_
  obtain ⟨d, e, q⟩ := q.fing (p := fun _ => True) r2.toRelS
  exact ok_ix _ _ _ _ _ _ _ _ (fun a w => r2.toRelS.wrThere w) (r2.toRelS.cont (x2.vrel h1)) (r2.toRelS.cont h2) e q
/-- a built-in function -/
theorem conts_of {ds : List D} {vs : List V} (r : RelS K B.fa U ρ st H) (h : VRels K B.fa ρ (Wu U ρ st) H ds vs) : Conts K B.fa (Wu U ρ st) H (ds.map (resolve st)) vs := by
  induction ds generalizing vs with
  | nil => exact h
  | cons d ds ih =>
    obtain ⟨v, ws, rfl, h1, h2⟩ := h
    exact ⟨v, ws, rfl, r.cont h1, ih h2⟩
theorem re_prim {p : Prim} {as : Ex} {rr : List V → Hp → VK → Prop} {Q : VK} (ok : PrimOK K B.fa (primD p) rr) (h : RE K B Wx cf (.prim p as) σ H Q) : tCB rr (RA K B Wx cf as) σ H Q := by
  obtain ⟨U, ρ, env, st, r, q⟩ := h
  simp only [evE] at q
  refine RA.first r q fun l ρ1 st1 H1 vs r1 x1 h1 q => ?_
  obtain ⟨d, e, q⟩ := q.fing (p := fun _ => True) r1.toRelS
  exact ok _ _ _ _ _ _ (fun a w => r1.toRelS.wrThere w) (conts_of r1.toRelS h1) e q
theorem rn_prim {p : Prim} {as : Ex} {rr : List V → Hp → VK → Prop} {Q : VK} (ok : PrimNew K B.fa (primD p) rr) (hl : ∀ ds d, primD p ds = some d → ∃ l, d = .lst l) (h : RN K B Wx cf (.prim p as) σ H Q) : tCB rr (RA K B Wx cf as) σ H Q := by
  obtain ⟨U, ρ, env, st, r, q⟩ := h
  simp only [evE] at q
  rw [bind_assoc] at q
  refine RA.first r q fun l ρ1 st1 H1 vs r1 x1 h1 q => ?_
  unfold opg at q
  cases e : primD p (l.map (resolve st1)) with
  | none => rw [e] at q; exact (show False from q).elim
  | some d =>
    rw [e] at q
    obtain ⟨ds, rfl⟩ := hl _ _ e
    exact ok _ _ _ _ _ _ (conts_of r1.toRelS h1) e fun p ws hp hr => CN.use r1 hp hr q
theorem rn_bin {op : BOp} {a b : Ex} {Q : VK} (ok : OpNew K B.fa (binD op) (binR K op)) (h : RN K B Wx cf (.bin op a b) σ H Q) : tOp (binR K op) (RE K B Wx cf a) (RE K B Wx cf b) σ H Q := by
  obtain ⟨U, ρ, env, st, r, q⟩ := h
  simp only [evE] at q
  rw [bind_assoc] at q
  refine RE.first r q fun x ρ1 st1 H1 v1 r1 x1 h1 q => ?_
  rw [bind_assoc] at q
  refine RE.first r1 q fun y ρ2 st2 H2 v2 r2 x2 h2 q => ?_
  unfold opg at q
  cases e : binD op (resolve st2 x) (resolve st2 y) with
  | none => rw [e] at q; exact (show False from q).elim
  | some d =>
    rw [e] at q
    cases d with
    | lst ds => exact ok _ _ _ _ _ _ _ _ (r2.toRelS.cont (x2.vrel h1)) (r2.toRelS.cont h2) e fun p ws hp hr => CN.use r2 hp hr q
    | dct k l =>
      exfalso
      have : ∀ x y, binD op x y ≠ some (.dct k l) := by
        intro x y
        cases x <;> cases y <;> simp only [binD, ne_eq, reduceCtorEq, not_false_eq_true] <;> first
          | (intro z; cases w : binI op _ _ with | none => rw [w] at z; cases z | some c => rw [w] at z; cases z)
          | (cases op <;> simp <;> split <;> simp)
      exact this _ _ e
    | _ => exact (show False from q).elim
end
end Py
end
section
set_option Elab.async false
set_option linter.all false
set_option maxRecDepth 100000
namespace Py
open PySem L2
/-! ### calls, tests, targets, comprehensions -/
section
variable {K : Frg} {B : Tab} {U : Addr → Prop} {Wx : WX} {cf : CallF} {σ : L2.St} {H : Hp} {ρ : List Addr} {env : Env} {st : Store}
/-- what a def promises -/
def spCall (K : Frg) (B : Tab) (cf : CallF) (j : Nat) : Sp := fun vs H Q E => ∃ U ρ st ds, RelS K B.fa U ρ st H ∧ VRels K B.fa ρ (Wu U ρ st) H ds vs ∧
  Post K B U (fun cls dd _ H' => E cls dd H') [] ρ st H (cf j ds st) (CE1 K B U Q)
theorem post_at {α : Type} {o : Out α} {C : α → List Addr → Store → Hp → Prop} {Wx' : WX} {σ' : L2.St} (w : ∀ cls dd H', Wx cls dd σ H' → Wx' cls dd σ' H') (q : Post K B U Wx σ ρ st H o C) : Post K B U Wx' σ' ρ st H o C := by
  cases o with
  | ok a st' => exact q
  | exc e st' => exact fun ρ' H' cls dd r x h => w _ _ _ (q ρ' H' cls dd r x h)
  | stuck => exact q
theorem post_noexc {α : Type} {o : Out α} {C : α → List Addr → Store → Hp → Prop} {Wx' : WX} {σ' : L2.St} (q : Post K B U Wx σ ρ st H o.noexc C) : Post K B U Wx' σ' ρ st H o C := by
  cases o with
  | ok a st' => exact q
  | exc e st' => exact (show False from q).elim
  | stuck => exact q
theorem re_call {j : Nat} {as : Ex} {Q : VK} (hne : as ≠ .nil) (h : RE K B Wx cf (.call j as) σ H Q) : tCallS (spCall K B cf j) (WE Wx) (RA K B Wx cf as) σ H Q := by
  obtain ⟨U, ρ, env, st, r, q⟩ := h
  simp only [evE] at q
  refine RA.first r q fun l ρ1 st1 H1 vs r1 x1 h1 q => ?_
  refine ⟨U, ρ1, st1, l, r1.toRelS, h1, ?_⟩
  cases l with
  | nil => exact post_noexc q
  | cons d ds => exact post_at (fun _ _ _ w => w) q
/-- a call of a local name that holds a def -/
def tCallV (fa : Nat → Addr) (i n : Nat) (sp : Nat → Sp) (E : L2.St → XK) (t : TA) : TE := fun σ H Q => ∃ j, j < n ∧ σ[i]? = some (some (.ref (fa j))) ∧ t σ H fun vs H1 => sp j vs H1 Q (E σ)
theorem re_calv {i n : Nat} {as : Ex} {Q : VK} (h : RE K B Wx cf (.calv i n as) σ H Q) : tCallV B.fa i n (fun j => spCall K B cf j) (WE Wx) (RA K B Wx cf as) σ H Q := by
  obtain ⟨U, ρ, env, st, r, q⟩ := h
  simp only [evE] at q
  cases h1 : env[i]? with
  | none => rw [h1] at q; exact (show False from q).elim
  | some o =>
    rw [h1] at q
    cases o with
    | none => exact (show False from q).elim
    | some d =>
      cases d with
      | fn j =>
        simp only at q
        split at q
        case isFalse => exact (show False from q).elim
        rename_i hj
        obtain ⟨v, e1, e2⟩ := r.env i _ h1
        have ev : v = .ref (B.fa j) := by simpa [VRel, Rep] using e2
        subst ev
        have hj2 : j < n := by
          have : j + 1 ≤ n := by simpa [Nat.blt] using hj
          omega
        refine ⟨j, hj2, e1, RA.first r q fun l ρ1 st1 H1 vs r1 x1 h1 q => ?_⟩
        exact ⟨U, ρ1, st1, l, r1.toRelS, h1, post_at (fun _ _ _ w => w) q⟩
      | _ => exact (show False from q).elim
theorem re_call0 {j : Nat} {Q : VK} (h : RE K B Wx cf (.call j .nil) σ H Q) : tCall (spCall K B cf j) [] (fun _ _ _ => False) tNil σ H Q := by
  obtain ⟨U, ρ, env, st, r, q⟩ := h
  simp only [evE, evL] at q
  exact ⟨U, ρ, st, [], r.toRelS, rfl, post_noexc q⟩
/-! tests -/
theorem re_test {a : Ex} {Q : Bool → Hp → Prop} (h : RT K B Wx cf a σ H Q) : RE K B Wx cf a σ H fun x H' => ∃ k, TruV K x H' k ∧ Q k H' := by
  obtain ⟨U, ρ, env, st, r, q⟩ := h
  refine ⟨U, ρ, env, st, r, q.mono fun d ρ' st' H' _ s x h v hv => ?_⟩
  obtain ⟨b, e, q⟩ := h
  exact ⟨b, truth_ok (s.cont hv) e, q⟩
theorem rt_cmp {op : COp} {a b : Ex} {Q : Bool → Hp → Prop} (h : RT K B Wx cf (.cmp op a b) σ H Q) : tTest (tOp (cmpR K B.fa op) (RE K B Wx cf a) (RE K B Wx cf b)) σ H Q := by
  obtain ⟨U, ρ, env, st, r, q⟩ := h
  refine re_cmp ⟨U, ρ, env, st, r, ?_⟩
  refine q.mono fun d ρ' st' H' e s x h v hv => ?_
  obtain ⟨b', e2, q⟩ := h
  have : ∃ k, d = .bl k := by
    simp only [evE] at e
    cases e1 : evE cf a env st with
    | ok x s1 =>
      rw [e1] at e
      simp only [Out.bind] at e
      cases e3 : evE cf b env s1 with
      | ok y s2 =>
        rw [e3] at e
        simp only [Out.bind] at e
        cases e4 : cmpD op (resolve s2 x) (resolve s2 y) with
        | none => rw [e4] at e; cases e
        | some k => rw [e4] at e; cases e; exact ⟨k, rfl⟩
      | _ => rw [e3] at e; cases e
    | _ => rw [e1] at e; cases e
  obtain ⟨k, rfl⟩ := this
  simp only [resolve, truth, Option.some.injEq] at e2
  subst e2
  exact ⟨k, cbl (s.cont hv), q⟩
theorem rt_chain {op op' : COp} {a b c : Ex} {Q : Bool → Hp → Prop} (h : RT K B Wx cf (.chain op op' a b c) σ H Q) : tTest (tChain (cmpR K B.fa op) (cmpR K B.fa op') (RE K B Wx cf a) (RE K B Wx cf b) (RE K B Wx cf c)) σ H Q := by
  obtain ⟨U, ρ, env, st, r, q⟩ := h
  refine re_chain ⟨U, ρ, env, st, r, ?_⟩
  refine q.mono fun d ρ' st' H' e s x h v hv => ?_
  obtain ⟨b', e2, q⟩ := h
  have : ∃ k, d = .bl k := by
    simp only [evE] at e
    cases e1 : evE cf a env st with
    | ok x s1 =>
      rw [e1] at e
      simp only [Out.bind] at e
      cases e3 : evE cf b env s1 with
      | ok y s2 =>
        rw [e3] at e
        simp only [Out.bind] at e
        cases e4 : cmpD op (resolve s2 x) (resolve s2 y) with
        | none => rw [e4] at e; cases e
        | some k =>
          rw [e4] at e
          cases k with
          | false => cases e; exact ⟨_, rfl⟩
          | true =>
            simp only at e
            cases e5 : evE cf c env s2 with
            | ok z s3 =>
              rw [e5] at e
              simp only at e
              cases e6 : cmpD op' (resolve s3 y) (resolve s3 z) with
              | none => rw [e6] at e; cases e
              | some k => rw [e6] at e; cases e; exact ⟨k, rfl⟩
            | _ => rw [e5] at e; cases e
      | _ => rw [e3] at e; cases e
    | _ => rw [e1] at e; cases e
  obtain ⟨k, rfl⟩ := this
  simp only [resolve, truth, Option.some.injEq] at e2
  subst e2
  exact ⟨k, cbl (s.cont hv), q⟩
theorem rt_and {a b : Ex} {Q : Bool → Hp → Prop} (h : RT K B Wx cf (.and a b) σ H Q) : tAnd (RT K B Wx cf a) (RT K B Wx cf b) σ H Q := by
  obtain ⟨U, ρ, env, st, r, q⟩ := h
  simp only [evE] at q
  refine ⟨U, ρ, env, st, r, q.bind.mono fun d ρ1 st1 H1 _ s x q => ?_⟩
  cases e : truth (resolve st1 d) with
  | none => rw [e] at q; exact (show False from q).elim
  | some k =>
    rw [e] at q
    refine ⟨k, rfl, ?_⟩
    cases k with
    | true => rw [if_pos rfl]; exact ⟨U, ρ1, env, st1, r.ext s x, q⟩
    | false =>
      rw [if_neg Bool.false_ne_true]
      obtain ⟨b, e2, q⟩ := q.here s
      rw [e] at e2
      cases e2
      exact q
theorem rt_or {a b : Ex} {Q : Bool → Hp → Prop} (h : RT K B Wx cf (.or a b) σ H Q) : tOr (RT K B Wx cf a) (RT K B Wx cf b) σ H Q := by
  obtain ⟨U, ρ, env, st, r, q⟩ := h
  simp only [evE] at q
  refine ⟨U, ρ, env, st, r, q.bind.mono fun d ρ1 st1 H1 _ s x q => ?_⟩
  cases e : truth (resolve st1 d) with
  | none => rw [e] at q; exact (show False from q).elim
  | some k =>
    rw [e] at q
    refine ⟨k, rfl, ?_⟩
    cases k with
    | false => rw [if_neg Bool.false_ne_true]; exact ⟨U, ρ1, env, st1, r.ext s x, q⟩
    | true =>
      rw [if_pos rfl]
      obtain ⟨b, e2, q⟩ := q.here s
      rw [e] at e2
      cases e2
      exact q
theorem rt_not {a : Ex} {Q : Bool → Hp → Prop} (h : RT K B Wx cf (.not a) σ H Q) : tNot (RT K B Wx cf a) σ H Q := by
  obtain ⟨U, ρ, env, st, r, q⟩ := h
  simp only [evE] at q
  refine ⟨U, ρ, env, st, r, q.bind.mono fun d ρ1 st1 H1 _ s x q => ?_⟩
  obtain ⟨d', e, q⟩ := q.opt s
  obtain ⟨k, e1, rfl⟩ := map_inv e
  refine ⟨k, e1, ?_⟩
  obtain ⟨b, e2, q⟩ := q _ _ s Ext.refl
  simp only [resolve, truth, Option.some.injEq] at e2
  subst e2
  exact q
/-! targets -/
def RG (K : Frg) (B : Tab) (t : Ex) : TG := fun v σ H Q => ∃ U ρ env st d env', Rel K B.fa U ρ env st σ H ∧ VRel K B.fa ρ (Wu U ρ st) H d v ∧ (match t with | .var i => env' = env.set i (some d) | t => setTg t (resolve st d) env = some env') ∧
  ∀ σ', Rel K B.fa U ρ env' st σ' H → (∀ vs, (∀ i ∈ slots t, i ∈ vs) → L2.wipe σ' vs = L2.wipe σ vs) → Q σ' H
def RGs (K : Frg) (B : Tab) (ts : Ex) : TGs := fun vs σ H Q => ∃ U ρ env st ds env', Rel K B.fa U ρ env st σ H ∧ Reps K B.fa (Wu U ρ st) H ds vs ∧ setTgs ts ds env = some env' ∧
  ∀ σ', Rel K B.fa U ρ env' st σ' H → (∀ vs, (∀ i ∈ slotss ts, i ∈ vs) → L2.wipe σ' vs = L2.wipe σ vs) → Q σ' H
theorem _root_.L2.PG.impI {X : Cx} {e : Expr} {t t' : TG} (h : PG X e t) (i : ∀ v σ H Q, σ.length = X.N.length → t' v σ H Q → t v σ H Q) : PG X e t' := ⟨fun pins s σ H v u Q I rv q => h.run pins s σ H v u Q I rv (i v σ H Q I.len q)⟩
theorem _root_.L2.PGs.impI {X : Cx} {e : List Expr} {t t' : TGs} (h : PGs X e t) (i : ∀ v σ H Q, σ.length = X.N.length → t' v σ H Q → t v σ H Q) : PGs X e t' := ⟨fun pins s σ H v u Q I rv q => h.run pins s σ H v u Q I rv (i v σ H Q I.len q)⟩
theorem wipe_set {σ : L2.St} {i : Nat} {o : Option V} : ∀ {vs : List Nat}, i ∈ vs → L2.wipe (σ.set i o) vs = L2.wipe σ vs
  | j :: vs, h => by
    have e : ∀ τ : L2.St, L2.wipe τ (j :: vs) = (L2.wipe τ vs).set j none := fun τ => rfl
    rw [e, e]
    rcases List.mem_cons.mp h with rfl | h
    · by_cases q : i ∈ vs
      · rw [wipe_set q]
      · have : ∀ (ws : List Nat) (τ : L2.St), i ∉ ws → L2.wipe (τ.set i o) ws = (L2.wipe τ ws).set i o := by
          intro ws
          induction ws with
          | nil => intro τ _; rfl
          | cons k ws ih =>
            intro τ hk
            show (L2.wipe (τ.set i o) ws).set k none = ((L2.wipe τ ws).set k none).set i o
            rw [ih τ (fun z => hk (List.mem_cons_of_mem _ z)), List.set_comm _ _ (fun z => hk (by subst z; exact List.mem_cons_self))]
        rw [this vs σ q, List.set_set]
    · rw [wipe_set h]
theorem Rel.setv (r : Rel K B.fa U ρ env st σ H) {i : Nat} {d : D} {v : V} (hi : i < σ.length) (h : VRel K B.fa ρ (Wu U ρ st) H d v) : Rel K B.fa U ρ (env.set i (some d)) st (σ.set i (some v)) H := ⟨r.toRelS, fun j d' e => by
  by_cases q : i = j
  · subst q
    have hl : i < (env.set i (some d)).length := (List.getElem?_eq_some_iff.mp e).1
    rw [List.length_set] at hl
    rw [List.getElem?_set_self hl] at e
    cases e
    exact ⟨v, List.getElem?_set_self hi, h⟩
  · rw [List.getElem?_set_ne q] at e
    obtain ⟨w, q1, q2⟩ := r.env j d' e
    exact ⟨w, by rw [List.getElem?_set_ne q]; exact q1, q2⟩⟩
theorem setTg_var {i : Nat} {d : D} {env env' : Env} (h : setTg (.var i) d env = some env') : env' = env.set i (some d) := by
  simp only [setTg] at h
  obtain ⟨d', e, rfl⟩ := map_inv h
  have := gl_some e
  cases this
  try rfl
theorem rg_name {i n : Nat} {v : V} {Q : L2.St → Hp → Prop} (hn : i < n) (hl : σ.length = n) (h : RG K B (.var i) v σ H Q) : gName i v σ H Q := by
  obtain ⟨U, ρ, env, st, d, env', r, hv, rfl, q⟩ := h
  exact q _ (r.setv (by omega) hv) fun vs hs => wipe_set (hs i (by simp [slots]))
theorem setTg_len : ∀ {ts : Ex} {ds : List D} {env env' : Env}, setTgs ts ds env = some env' → ∀ {es : List Expr} {N : List Str} {sc : Scope} {fn : Str → Bool}, agTgs N sc fn ts es = true → ds.length = es.length
  | .nil, [], _, _, _, [], _, _, _, _ => rfl
  | .nil, [], _, _, _, _ :: _, _, _, _, g => by simp [agTgs] at g
  | .nil, _ :: _, _, _, e, _, _, _, _, _ => by simp [setTgs] at e
  | .cons t ts, [], _, _, e, _, _, _, _, _ => by simp [setTgs] at e
  | .cons t ts, d :: ds, _, _, e, [], _, _, _, g => by simp [agTgs] at g
  | .cons t ts, d :: ds, env, env', e, x :: es, N, sc, fn, g => by
    simp only [setTgs] at e
    simp only [agTgs, Bool.and_eq_true] at g
    cases k : setTg t d env with
    | none => rw [k] at e; cases e
    | some env1 =>
      rw [k] at e
      simp [setTg_len (env' := env') e g.2.2]
  | .var _, _, _, _, e, _, _, _, _, _ => by simp [setTgs] at e
  | .tup _, _, _, _, e, _, _, _, _, _ => by simp [setTgs] at e
  | .cst _, _, _, _, e, _, _, _, _, _ => by simp [setTgs] at e
  | .bin _ _ _, _, _, _, e, _, _, _, _, _ => by simp [setTgs] at e
  | .neg _, _, _, _, e, _, _, _, _, _ => by simp [setTgs] at e
  | .cmp _ _ _, _, _, _, e, _, _, _, _, _ => by simp [setTgs] at e
  | .chain _ _ _ _ _, _, _, _, e, _, _, _, _, _ => by simp [setTgs] at e
  | .and _ _, _, _, _, e, _, _, _, _, _ => by simp [setTgs] at e
  | .or _ _, _, _, _, e, _, _, _, _, _ => by simp [setTgs] at e
  | .not _, _, _, _, e, _, _, _, _, _ => by simp [setTgs] at e
  | .ite _ _ _, _, _, _, e, _, _, _, _, _ => by simp [setTgs] at e
  | .lst _, _, _, _, e, _, _, _, _, _ => by simp [setTgs] at e
  | .ix _ _, _, _, _, e, _, _, _, _, _ => by simp [setTgs] at e
  | .slc _ _ _, _, _, _, e, _, _, _, _, _ => by simp [setTgs] at e
  | .slcR _, _, _, _, e, _, _, _, _, _ => by simp [setTgs] at e
  | .enumE _, _, _, _, e, _, _, _, _, _ => by simp [setTgs] at e
  | .call _ _, _, _, _, e, _, _, _, _, _ => by simp [setTgs] at e
  | .calv _ _ _, _, _, _, e, _, _, _, _, _ => by simp [setTgs] at e
  | .prim _ _, _, _, _, e, _, _, _, _, _ => by simp [setTgs] at e
  | .meth _ _ _, _, _, _, e, _, _, _, _, _ => by simp [setTgs] at e
  | .comp _ _ _ _ _, _, _, _, e, _, _, _, _, _ => by simp [setTgs] at e
  | .comp2 _ _ _ _ _ _, _, _, _, e, _, _, _, _, _ => by simp [setTgs] at e
  | .dcomp _ _ _ _ _ _, _, _, _, e, _, _, _, _, _ => by simp [setTgs] at e
  | .dict _ _, _, _, _, e, _, _, _, _, _ => by simp [setTgs] at e
theorem rg_tup {ts : Ex} {n : Nat} {v : V} {Q : L2.St → Hp → Prop} (hn : ∀ ds env env', setTgs ts ds env = some env' → ds.length = n) (h : RG K B (.tup ts) v σ H Q) : gTup K n (RGs K B ts) v σ H Q := by
  obtain ⟨U, ρ, env, st, d, env', r, hv, e, q⟩ := h
  simp only at e
  have c := r.toRelS.cont hv
  cases k : resolve st d with
  | tup ds =>
    rw [k] at e c
    simp only [setTg] at e
    obtain ⟨a, vs, rfl, t, p⟩ := ctup c
    refine ⟨a, vs, rfl, t.sq, by rw [← p.length]; exact hn _ _ _ e, U, ρ, env, st, ds, env', r, p, e, fun σ' r' w => q σ' r' fun vs hs => w vs (by simpa [slots] using hs)⟩
  | _ => rw [k] at e; simp [setTg] at e
theorem rgs_nil {vs : List V} {Q : L2.St → Hp → Prop} (h : RGs K B .nil vs σ H Q) : gNil vs σ H Q := by
  obtain ⟨U, ρ, env, st, ds, env', r, p, e, q⟩ := h
  cases ds with
  | nil =>
    simp only [setTgs, Option.some.injEq] at e
    subst e
    exact ⟨by simpa [Reps] using p, q σ r fun _ _ => rfl⟩
  | cons d ds => simp [setTgs] at e
theorem rgs_cons {t ts : Ex} {vs : List V} {Q : L2.St → Hp → Prop} (ht : (∃ i, t = .var i) ∨ ∃ us, t = .tup us) (h : RGs K B (.cons t ts) vs σ H Q) : gCons (RG K B t) (RGs K B ts) vs σ H Q := by
  obtain ⟨U, ρ, env, st, ds, env', r, p, e, q⟩ := h
  cases ds with
  | nil => simp [setTgs] at e
  | cons d ds =>
    simp only [setTgs] at e
    simp only [Reps] at p
    obtain ⟨v, ws, rfl, p1, p2⟩ := p
    cases k : setTg t d env with
    | none => rw [k] at e; cases e
    | some env1 =>
      rw [k] at e
      have hres : resolve st d = d := by
        cases d <;> first | rfl | (simp [Rep] at p1)
      refine ⟨v, ws, rfl, U, ρ, env, st, d, env1, r, VRel.of p1, ?_, fun σ1 r1 w1 => ⟨U, ρ, env1, st, ds, env', r1, p2, e, fun σ' r' w' => q σ' r' fun vs hs => ?_⟩⟩
      · rcases ht with ⟨i, rfl⟩ | ⟨us, rfl⟩
        · exact setTg_var k
        · simp only [hres]
          exact k
      · rw [w' vs fun i hi => hs i (by simp [slotss, hi]), w1 vs fun i hi => hs i (by simp [slotss, hi])]
end
end Py
end
section
set_option Elab.async false
set_option linter.all false
set_option maxRecDepth 100000
namespace Py
open PySem PySem.Spec PyProof.Rows L2
/-! ### enumerate over a tuple -/
section
open Sem (wp)
set_option maxHeartbeats 1000000 in
theorem meets_enum1 {v : Value} {ob : Obj} {Hw : Heap → Prop} (B : Begins v ob Hw) :
    Meets (Builtin.«enumerate.__new__» ⟨[.type "enumerate", v], []⟩) (fun _ Rr sh => Hw sh.heap ∧
      Rr (.ok (.ret (.ref (sh.heap.push ob).objs.size))) { sh with heap := (sh.heap.push ob).push { cls := .type "enumerate", data := .fields #[.none, .bool false, .ref sh.heap.objs.size, rawInt 0, .none, .none] } }) :=
  .of_wp fun prog w A Rr sh hy0 => by
    obtain ⟨hpz, gg0, dd0, tki, oss⟩ := sh; obtain ⟨hh1, hy0⟩ := hy0
    have hsub := sub_enumerate
    have qst : ∀ {A' : Around} {Eo : Value → Shared → Prop} {Qq : Value → Shared → Prop}, Qq (.ref hpz.objs.size) ⟨hpz.push ob, gg0, dd0, tki, oss⟩ → wpAny (model prog w) A' (pyIter v) Qq Eo ⟨hpz, gg0, dd0, tki, oss⟩ :=
      fun qa => B.iter prog w _ _ ⟨hpz, gg0, dd0, tki, oss⟩ _ hh1 qa
    wp_walk using qst
    refine wpAny_stack_any fun sti => wpAny_pure ?_
    split
    · rename_i cc0 _ _ _ _ _
      cases (cc0 == Value.type "enumerate")
      · wp_walk using qst
        exact ⟨_, rfl, hy0⟩
      · wp_walk using qst
        exact ⟨_, rfl, hy0⟩
    · wp_walk using qst
      exact ⟨_, rfl, hy0⟩
theorem call_enum1 {prog : Program} {w : World} {A : Around} {Eo : Value → Shared → Prop} {sh : Shared} {v : Value} {ob : Obj} {Hw : Heap → Prop} {Qq : Value → Shared → Prop} (B : Begins v ob Hw) (hh1 : Hw sh.heap)
    (hy0 : ∀ hpA, IsEnum hpA (sh.heap.objs.size + 1) sh.heap.objs.size 0 .none → hpA.get? sh.heap.objs.size = some ob → hpA.objs.size = sh.heap.objs.size + 2 →
      (∀ ad ob, sh.heap.get? ad = some ob → hpA.get? ad = some ob) → Qq (.ref (sh.heap.objs.size + 1)) { sh with heap := hpA }) :
    wpAny (model prog w) A (PySem.call (.type "enumerate") [v]) Qq Eo sh := by
  refine callType_new
    F.called_enumerate (by decide) (F.typeCall_enumerate_1 _)
    (F.newCall_enumerate_1 _) (fun obj => F.args_object_init_2 obj _) F.entry_enumerate_new
    (meets_enum1 B) ⟨hh1, ?_⟩
  have hsize : (sh.heap.push ob).objs.size = sh.heap.objs.size + 1 := Heap.size_push ..
  show _ ∧ _
  rw [hsize]
  have hen : IsEnum ((sh.heap.push ob).push { cls := .type "enumerate", data := .fields #[.none, .bool false, .ref sh.heap.objs.size, rawInt 0, .none, .none] }) (sh.heap.objs.size + 1) sh.heap.objs.size 0 .none := by
    have := Heap.get?_push_size (sh.heap.push ob) (o := { cls := .type "enumerate", data := .fields #[.none, .bool false, .ref sh.heap.objs.size, rawInt 0, .none, .none] }) rfl
    rw [hsize] at this; exact this
  refine ⟨⟨_, hen, rfl⟩, hy0 _ hen (Heap.get?_push_of_some _ (Heap.get?_push_size _ B.free)) (by rw [Heap.size_push, hsize]) fun ad ob x => Heap.get?_push_of_some _ (Heap.get?_push_of_some _ x)⟩
end
theorem drawsEnd {prog : Program} {w : World} {A : Around} (hh : A.handled = none) (it t : Addr) (i : Nat) (items : Array Value) (hi : items.size ≤ i) :
    Draws prog w A it [it, t] 0 (fun _ _ => False) (fun _ hy0 => hy0.IsTupleIter it t i ∧ hy0.IsTuple t items) where
  live := fun _ _ sti => let ⟨ob, hout, _⟩ := sti.1; ⟨ob, hout⟩
  frame := fun _ _ _ sti hkps => ⟨sti.1.at fun ob e => hkps it (by simp) ob e, sti.2.at fun ob e => hkps t (by simp) ob e⟩
  item := fun i sh Qq Eo hi sti hQ => absurd hi (Nat.not_lt_zero _)
  done := fun sh Qq Eo sti hE => wpAny_nextOf_tuple_end hh sti.1 sti.2 (by simp; omega) hE
/-- the tuple at a, each item in a hnew pair -/
def IteT (K : PySem.W.Frag) (a : Addr) : It :=
  ⟨fun i Hw => ∃ (xs : List V) (x : V), SqT K Hw a xs ∧ xs[i]? = some x, fun i Hw v H' => ∃ T x, v = .ref T ∧ Hw T = none ∧ H' = upd Hw T (.tup [.int (i : Nat), x]) ∧ ∀ xs, SqT K Hw a xs → xs[i]? = some x, fun i Hw => ∃ xs : List V, SqT K Hw a xs ∧ xs.length ≤ i⟩
theorem turn_enumT {P : Program} {w : World} {K : PySem.W.Frag} {elts : List Expr} {kk : Nat} {tpos : Pos} (a e it : Addr) :
    Turn P w K (.Tuple elts kk tpos) (IteT K a) [e, it] e (fun i hy0 => (∃ od, IsEnum hy0 e it ((i : Nat) : Int) od) ∧ hy0.IsTupleIter it a i ∧ e ≠ it ∧ a ≠ it ∧ a ≠ e) where
  mem := by simp
  obj := fun i hy0 sti ad hmem => by
    obtain ⟨⟨od, hen⟩, ⟨ob, hout, hcalm, hd⟩, _⟩ := sti
    have edis : ad = e ∨ ad = it := by simpa using hmem
    rcases edis with zz | zz
    · rw [zz]; exact ⟨_, hen, fun v qa => nomatch qa⟩
    · rw [zz]; exact ⟨ob, hout, fun v qa => by rw [hd] at qa; cases qa⟩
  keep := fun i hy0 hpA sti kp => let ⟨⟨od, hen⟩, hi, hdif⟩ := sti; ⟨⟨od, kp e (by simp) _ hen⟩, hi.at fun ob qa => kp it (by simp) ob qa, hdif⟩
  item := by
    intro X hPp hWw hKk hcalm i pns sh ςt Hw Eo Vi hfps sti hgoes
    subst hPp hWw hKk
    obtain ⟨⟨od, hen⟩, hitr, hdif, ha1, ha2⟩ := sti
    obtain ⟨xs, x, hsq, hxi⟩ := hgoes
    obtain ⟨itms, rvs, p, hsize⟩ := Vi.tuple hsq
    obtain ⟨uu, hui, rui⟩ := rvs.get hxi
    have hlte : e < sh.heap.objs.size := Heap.lt_size hen
    have hlti : it < sh.heap.objs.size := by obtain ⟨_, qa, _⟩ := hitr; exact Heap.lt_size qa
    have tp : sh.heap.IsTuple a itms.toArray := p
    have D := Draws.tuple (prog := X.prog) (w := X.w) (A := X.A.in1) (Vi.ok.hd hcalm) it a ha1 itms.toArray
    have hlt : i < itms.toArray.size := by
      have := (List.getElem?_eq_some_iff.mp hui).1
      simpa using this
    refine wpAny_pyNext_enum_itemD D hen ⟨hitr, tp⟩ hlt hdif (by simp; exact ⟨hdif, Ne.symm ha2⟩) fun x' hpA tki hx' hout hit' hT hsz hkps => ?_
    have hxu : x' = uu := by
      have eqn1 : itms.toArray[i]? = some uu := by simpa using hui
      rw [eqn1] at hx'
      cases hx'
      try rfl
    subst hxu
    refine ⟨_, rfl, wpAny_letOwnedTupleGo_enum (s := { sh with heap := hpA, toks := tki + 1 }) hout fun hpB he' sbut => ?_⟩
    have hT2 : hpB.get? sh.heap.objs.size = some { cls := .type "tuple", data := .seq #[.int i tki, x'] } := (sbut.2 _ (Nat.ne_of_gt hlte)).trans hT
    have hnew : ObjOk X.prog X.w (upd Hw sh.heap.objs.size (.tup [.int (i : Nat), x])) hpB sh.heap.objs.size (.tup [.int (i : Nat), x]) :=
      ⟨by show 2 ≤ sizeLine; decide, [.int i tki, x'], .cons ⟨_, rfl⟩ (.cons rui .nil), ⟨_, hT2, rfl, _, rfl⟩⟩
    have Vi1 : Inv X pns ςt (upd Hw sh.heap.objs.size (.tup [.int (i : Nat), x])) { sh with heap := hpB, toks := tki + 1 } :=
      Vi.turnedNew (ch := [e, it]) (fun ad ob hmem qa => (sbut.2 ad (fun zz => hmem (by simp [zz]))).trans (hkps ad ob (fun zz => hmem (by simp [zz])) (fun zz => hmem (by simp [zz])) qa)) hfps (Nat.le_refl _) hnew
    refine ⟨.ref sh.heap.objs.size, _, Vi1, rfl, ⟨_, x, rfl, Vi.hok.fresh (Nat.le_refl _), rfl, fun zs2 hys => by rw [Vi.tuple_inj hys hsq]; exact hxi⟩, ⟨⟨x', ?_⟩, hit'.1.at fun ob qa => (sbut.2 it (Ne.symm hdif)).trans qa, hdif, ha1, ha2⟩, fun ad hmem => ?_⟩
    · have eqn1 : ((i + 1 : Nat) : Int) = (i : Int) + 1 := by omega
      rw [eqn1]; exact he'
    · have hltb : ad < sh.heap.objs.size := by
        have edis : ad = e ∨ ad = it := by simpa using hmem
        rcases edis with zz | zz
        · rw [zz]; exact hlte
        · rw [zz]; exact hlti
      rw [upd_ne (Nat.ne_of_lt hltb)]
      exact (hfps ad hmem).1
  done := by
    intro X hPp hWw hKk hcalm i pns sh ςt Hw Eo Vi hfps sti hgoes
    subst hPp hWw hKk
    obtain ⟨⟨od, hen⟩, hitr, hdif, ha1, ha2⟩ := sti
    obtain ⟨xs, hsq, hxi⟩ := hgoes
    obtain ⟨itms, rvs, p, hsize⟩ := Vi.tuple hsq
    obtain ⟨fa0, fa1, fa2, fa3, fa4, fa5⟩ := hfps it (by simp)
    have hlen := rvs.length
    have tp : sh.heap.IsTuple a itms.toArray := p
    have D := drawsEnd (prog := X.prog) (w := X.w) (A := X.A.in1) (Vi.ok.hd hcalm) it a i itms.toArray (by simp; omega)
    exact wpAny_pyNext_enum_endD D hen ⟨hitr, tp⟩ fun hpA ebut => ⟨rfl, Vi.turned (t' := sh.toks) (fun ad ob hmem qa => ebut ad ob hmem qa) fa0 fa1 fa3 fa4 fa5⟩
  self := fun A i sh Qq Eo sti hy0 => let ⟨⟨_, hen⟩, _⟩ := sti; wpAny_pyIter_enum hen hy0
def iEnumT (K : PySem.W.Frag) (ta : TA) : TI := fun ςt Hw Rr => ta ςt Hw fun vvs Hw1 => ∃ a xs, vvs = [.ref a] ∧ SqT K Hw1 a xs ∧ Rr (IteT K a) Hw1
theorem pi_enumT {X : Cx} {e : Expr} {ta : TA} {p pos tpos : Pos} {elts : List Expr} {kk : Nat} (hgoes : Gl X "enumerate") (hm : X.mg "enumerate" = none) (ha : PA X [e] ta) (hs : starEach [e] X.env = [(false, eval e X.env)] := by rfl) :
    PI X (.Tuple elts kk tpos) (.Call (.Name "enumerate" p) [e] [] pos) (iEnumT X.K ta) := by
  refine ⟨fun pns sh ςt Hw Rr Vi hy0 => ?_⟩
  refine Call_ (ld_blt Vi hgoes hm boot_enumerate (PyProof.Rows.callWith_type1 (thn (ha.run pos pns sh ςt Hw _ Vi hy0) fun uvs sh1 ⟨vvs, Hw1, Vi1, rr1, qst⟩ => ?_) hs rfl))
  obtain ⟨a, xs, exq, hsq, qa⟩ := qst
  subst exq
  cases rr1 with
  | cons r rr =>
    cases rr
    cases r
    obtain ⟨itms, rvs, p', hsize⟩ := Vi1.tuple hsq
    have tp : sh1.heap.IsTuple a itms.toArray := p'
    have hal : a < sh1.heap.objs.size := by obtain ⟨ob, qa, _⟩ := tp; exact Heap.lt_size qa
    refine call_enum1 (begins_tuple a itms.toArray) tp fun hpA hen hitr hsz hkps => wpAny_pyIter_enum hen ?_
    have Vi2 : Inv X pns ςt Hw1 { sh1 with heap := hpA } := Vi1.kept (t' := sh1.toks) hkps
    refine ⟨sh1.heap.objs.size + 1, [sh1.heap.objs.size + 1, sh1.heap.objs.size], _, _, Hw1, rfl, Vi2, turn_enumT a (sh1.heap.objs.size + 1) sh1.heap.objs.size, ⟨⟨.none, hen⟩, ⟨_, hitr, rfl, rfl⟩, Nat.succ_ne_self _, Nat.ne_of_lt hal, Nat.ne_of_lt (Nat.lt_succ_of_lt hal)⟩, fun ad hmem => ?_, qa⟩
    have edis : ad = sh1.heap.objs.size + 1 ∨ ad = sh1.heap.objs.size := by simpa using hmem
    have hleq : sh1.heap.objs.size ≤ ad := by
      rcases edis with zz | zz
      · rw [zz]; exact Nat.le_add_right _ _
      · rw [zz]; exact Nat.le_refl _
    exact Vi1.fpOk hleq (Vi1.hok.fresh hleq)
/-! .. and what its items are -/
theorem enumD_len : ∀ (l : List D) (s : Int), (enumD s l).length = l.length
  | [], _ => rfl
  | x :: xs, s => by simp [enumD, enumD_len xs]
theorem enumD_get : ∀ (l : List D) (s : Int) (i : Nat), (enumD s l)[i]? = l[i]?.map fun x => D.tup [.int (s + i), x]
  | [], s, i => by simp [enumD]
  | x :: xs, s, 0 => by simp [enumD]
  | x :: xs, s, i + 1 => by
    simp only [enumD, List.getElem?_cons_succ, enumD_get xs (s + 1) i]
    have : s + 1 + (i : Int) = s + ((i + 1 : Nat) : Int) := by omega
    rw [this]
theorem rep_pair {K : Frg} {fa : Nat → Addr} {W : Addr → Prop} {H : Hp} {T : Addr} {i : Int} {d : D} {x : V} (nw : ¬ W T) (hT : H T = none) (hx : Rep K fa W H d x) : Grow H (upd H T (.tup [.int i, x])) ∧ Rep K fa W (upd H T (.tup [.int i, x])) (.tup [.int i, d]) (.ref T) := by
  refine ⟨Grow.upd hT, ?_⟩
  have sp : Step W H W (upd H T (.tup [.int i, x])) := (Grow.upd hT).step
  simp only [Rep]
  exact ⟨T, [.int i, x], rfl, .inl ⟨nw, .inl (by rw [upd_same])⟩, _, _, rfl, rfl, _, _, rfl, sp.rep _ _ hx, rfl⟩
end Py
end
section
set_option Elab.async false
set_option linter.all false
set_option maxRecDepth 100000
namespace Py
open PySem L2
/-! ### what a for walks along; comprehensions -/
section
variable {K : Frg} {B : Tab} {U : Addr → Prop} {Wx : WX} {cf : CallF} {σ : L2.St} {H : Hp} {ρ : List Addr} {env : Env} {st : Store}
theorem Step.trans {W W1 W2 : Addr → Prop} {H H1 H2 : Hp} (a : Step W H W1 H1) (b : Step W1 H1 W2 H2) : Step W H W2 H2 := ⟨fun x o h w => b.keep x o (a.keep x o h w) (a.nw h w), fun x w => by
  rcases b.wr x w with q | q
  · exact a.wr x q
  · by_cases z : W x
    · exact .inl z
    · right
      cases e : H x with
      | none => rfl
      | some o => rw [a.keep x o e z] at q; cases q⟩
def ItOk (K : Frg) (fa : Nat → Addr) (J : It) (l : List D) (W : Addr → Prop) (H : Hp) : Prop :=
  ∀ W' H', Step W H W' H' → (∀ a, W' a → H' a ≠ none) → (∀ i, l.length ≤ i → J.stop i H') ∧ ∀ i d, l[i]? = some d → J.go i H' ∧ ∀ x H'', J.yld i H' x H'' → Grow H' H'' ∧ Rep K fa W' H'' d x
def RI (K : Frg) (B : Tab) (Wx : WX) (cf : CallF) (ir : Ex) : TI := fun σ H R => ∃ U ρ env st, Rel K B.fa U ρ env st σ H ∧ Post K B U Wx σ ρ st H (srcL (evE cf ir env st))
  (fun l ρ' st' H' => ∀ J, ItOk K B.fa J l (Wu U ρ' st') H' → R J H')
theorem _root_.Py.RelS.wu_some {K : Frg} {fa : Nat → Addr} {U : Addr → Prop} {ρ : List Addr} {st : Store} {H : Hp} (r : RelS K fa U ρ st H) : ∀ a, Wu U ρ st a → H a ≠ none := fun a w e => by
  rcases w with u | ⟨i, c, h1, h2, h3⟩
  · obtain ⟨o, q⟩ := r.ut a u
    rw [q] at e; cases e
  · have := r.cell i a c h1 h2
    cases k : c.d with
    | lst ds => rw [k] at this; obtain ⟨vs, q, _⟩ := this; rw [q] at e; cases e
    | dct ks ds => rw [k] at this; obtain ⟨vs, q, _⟩ := this; rw [q] at e; cases e
    | _ => rw [k] at this; exact this
theorem it_list {fa : Nat → Addr} {a : Addr} {l : List D} {vs : List V} {W : Addr → Prop} (t : LAt W H a vs) (p : Reps K fa W H l vs) : ItOk K fa (Itl K a) l W H := by
  intro W' H' sp wn
  have t' := sp.lat t
  have p' := sp.reps _ _ p
  have q : SqL K H' a vs := .of t'.2
  refine ⟨fun i hi => ⟨vs, q, by rw [← p.length]; exact hi⟩, fun i d e => ?_⟩
  obtain ⟨v, e1, e2⟩ := p'.get e
  refine ⟨⟨vs, v, q, e1⟩, fun x H'' hy => ?_⟩
  obtain ⟨rfl, hy⟩ := hy
  have := hy vs q
  rw [e1] at this
  cases this
  exact ⟨Grow.refl, e2⟩
theorem it_ro {fa : Nat → Addr} {a : Addr} {l : List D} {vs : List V} {W : Addr → Prop} (t : RAt K W H a vs) (p : Reps K fa W H l vs) : ItOk K fa (Itl K a) l W H := by
  intro W' H' sp wn
  have t' := sp.rat t
  have p' := sp.reps _ _ p
  have q : SqL K H' a vs := t'.sq
  refine ⟨fun i hi => ⟨vs, q, by rw [← p.length]; exact hi⟩, fun i d e => ?_⟩
  obtain ⟨v, e1, e2⟩ := p'.get e
  refine ⟨⟨vs, v, q, e1⟩, fun x H'' hy => ?_⟩
  obtain ⟨rfl, hy⟩ := hy
  have := hy vs q
  rw [e1] at this
  cases this
  exact ⟨Grow.refl, e2⟩
theorem it_tup {fa : Nat → Addr} {a : Addr} {l : List D} {vs : List V} {W : Addr → Prop} (t : TAt K W H a vs) (p : Reps K fa W H l vs) : ItOk K fa (Itt K a) l W H := by
  intro W' H' sp wn
  have t' := sp.tat t
  have p' := sp.reps _ _ p
  have q : SqT K H' a vs := t'.sq
  refine ⟨fun i hi => ⟨vs, q, by rw [← p.length]; exact hi⟩, fun i d e => ?_⟩
  obtain ⟨v, e1, e2⟩ := p'.get e
  refine ⟨⟨vs, v, q, e1⟩, fun x H'' hy => ?_⟩
  obtain ⟨rfl, hy⟩ := hy
  have := hy vs q
  rw [e1] at this
  cases this
  exact ⟨Grow.refl, e2⟩
theorem rng_get : ∀ (n : Nat) (lo : Int) (i : Nat), (rng lo n)[i]? = if i < n then some (.int (lo + i)) else none
  | 0, lo, i => by simp [rng]
  | n + 1, lo, 0 => by simp [rng]
  | n + 1, lo, i + 1 => by
    simp only [rng, List.getElem?_cons_succ, rng_get n (lo + 1) i]
    by_cases h : i < n
    · rw [if_pos h, if_pos (by omega)]
      congr 2
      omega
    · rw [if_neg h, if_neg (by omega)]
theorem rng_len : ∀ (n : Nat) (lo : Int), (rng lo n).length = n
  | 0, _ => rfl
  | n + 1, lo => by simp [rng, rng_len n]
theorem it_rng {fa : Nat → Addr} {lo : Int} {n : Nat} {W : Addr → Prop} : ItOk K fa (Itr lo n) (rng lo n) W H := by
  intro W' H' sp wn
  refine ⟨fun i hi => by rw [rng_len] at hi; exact hi, fun i d e => ?_⟩
  rw [rng_get] at e
  split at e <;> cases e
  rename_i hi
  refine ⟨hi, fun x H'' hy => ?_⟩
  obtain ⟨rfl, rfl⟩ := hy
  exact ⟨Grow.refl, rep_int⟩
theorem it_enum {fa : Nat → Addr} {a : Addr} {l : List D} {vs : List V} {W : Addr → Prop} (t : LAt W H a vs ∨ RAt K W H a vs) (p : Reps K fa W H l vs) : ItOk K fa (Ite K a) (enumD 0 l) W H := by
  intro W' H' sp wn
  have p' := sp.reps _ _ p
  have q : SqL K H' a vs := by
    rcases t with t | t
    · exact .of (sp.lat t).2
    · exact (sp.rat t).sq
  refine ⟨fun i hi => ⟨vs, q, by rw [← p.length]; rwa [enumD_len] at hi⟩, fun i d e => ?_⟩
  rw [enumD_get] at e
  cases hl : l[i]? with
  | none => rw [hl] at e; cases e
  | some d0 =>
    rw [hl] at e
    cases e
    obtain ⟨v, e1, e2⟩ := p'.get hl
    refine ⟨⟨vs, v, q, e1⟩, fun x H'' hy => ?_⟩
    obtain ⟨T, x, rfl, hT, rfl, hy⟩ := hy
    have := hy vs q
    rw [e1] at this
    cases this
    have e0 : (0 : Int) + (i : Int) = i := by omega
    rw [e0]
    exact rep_pair (fun w => wn T w hT) hT e2
theorem it_enumT {fa : Nat → Addr} {a : Addr} {l : List D} {vs : List V} {W : Addr → Prop} (t : TAt K W H a vs) (p : Reps K fa W H l vs) : ItOk K fa (IteT K a) (enumD 0 l) W H := by
  intro W' H' sp wn
  have p' := sp.reps _ _ p
  have q : SqT K H' a vs := (sp.tat t).sq
  refine ⟨fun i hi => ⟨vs, q, by rw [← p.length]; rwa [enumD_len] at hi⟩, fun i d e => ?_⟩
  rw [enumD_get] at e
  cases hl : l[i]? with
  | none => rw [hl] at e; cases e
  | some d0 =>
    rw [hl] at e
    cases e
    obtain ⟨v, e1, e2⟩ := p'.get hl
    refine ⟨⟨vs, v, q, e1⟩, fun x H'' hy => ?_⟩
    obtain ⟨T, x, rfl, hT, rfl, hy⟩ := hy
    have := hy vs q
    rw [e1] at this
    cases this
    have e0 : (0 : Int) + (i : Int) = i := by omega
    rw [e0]
    exact rep_pair (fun w => wn T w hT) hT e2
theorem ri_seq {ir : Ex} {R : It → Hp → Prop} (h : RI K B Wx cf ir σ H R) : iList K (RE K B Wx cf ir) σ H R ∨ iTup K (RE K B Wx cf ir) σ H R := by
  obtain ⟨U, ρ, env, st, r, q⟩ := h
  unfold srcL at q
  cases e : evE cf ir env st with
  | stuck => rw [e] at q; exact (show False from q).elim
  | exc a b => rw [e] at q; exact .inl ⟨U, ρ, env, st, r, by rw [e]; exact q⟩
  | ok d st1 =>
    cases k : resolve st1 d with
    | lst ds =>
      left
      refine ⟨U, ρ, env, st, r, q.bind.mono fun d' ρ1 st1' H1 e' s x q v hv => ?_⟩
      rw [e] at e'
      cases e'
      obtain ⟨st2, r2, x2, p, q⟩ := esc_ok (r.ext s x) hv q
      rw [k] at p q
      simp only [Rep] at p
      obtain ⟨a, vs, rfl, t, p⟩ := p
      exact ⟨a, rfl, ⟨vs, .of t.2⟩, (q.here r2.toRelS) _ (it_list t p)⟩
    | ro ds =>
      left
      refine ⟨U, ρ, env, st, r, q.bind.mono fun d' ρ1 st1' H1 e' s x q v hv => ?_⟩
      rw [e] at e'
      cases e'
      obtain ⟨st2, r2, x2, p, q⟩ := esc_ok (r.ext s x) hv q
      rw [k] at p q
      simp only [Rep] at p
      obtain ⟨a, vs, rfl, t, p⟩ := p
      exact ⟨a, rfl, ⟨vs, t.sq⟩, (q.here r2.toRelS) _ (it_ro t p)⟩
    | tup ds =>
      right
      refine ⟨U, ρ, env, st, r, q.bind.mono fun d' ρ1 st1' H1 e' s x q v hv => ?_⟩
      rw [e] at e'
      cases e'
      obtain ⟨st2, r2, x2, p, q⟩ := esc_ok (r.ext s x) hv q
      rw [k] at p q
      simp only [Rep] at p
      obtain ⟨a, vs, rfl, t, p⟩ := p
      exact ⟨a, rfl, ⟨vs, t.sq⟩, (q.here r2.toRelS) _ (it_tup t p)⟩
    | _ =>
      left
      refine ⟨U, ρ, env, st, r, q.bind.mono fun d' ρ1 st1' H1 e' s x q v hv => ?_⟩
      rw [e] at e'
      cases e'
      obtain ⟨st2, r2, x2, p, q⟩ := esc_ok (r.ext s x) hv q
      rw [k] at q
      exact (show False from q).elim
theorem pi_or {X : Cx} {tg l : Expr} {w1 w2 : TI} (h1 : PI X tg l w1) (h2 : PI X tg l w2) : PI X tg l (fun σ H R => w1 σ H R ∨ w2 σ H R) :=
  ⟨fun pins s σ H R I h => h.elim (h1.run pins s σ H R I) (h2.run pins s σ H R I)⟩
theorem _root_.L2.PI.imp {X : Cx} {tg l : Expr} {t t' : TI} (h : PI X tg l t) (i : ∀ σ H Q, t' σ H Q → t σ H Q) : PI X tg l t' := ⟨fun pins s σ H Q I q => h.run pins s σ H Q I (i σ H Q q)⟩
theorem pi_seq {X : Cx} {tg l : Expr} {ir : Ex} (h : PE X l (RE X.K B Wx cf ir)) : PI X tg l (RI X.K B Wx cf ir) :=
  (pi_or (pi_list h) (pi_tup h)).imp fun σ H R q => ri_seq q
theorem in62_iff {a : Int} (h : in62 a = true) : -(2 ^ 62) ≤ a ∧ a < 2 ^ 62 := by
  have e : p62 = 2 ^ 62 := by decide
  simp only [in62, ile_iff, ilt_iff, e, Bool.and_eq_true, decide_eq_true_eq] at h
  exact h
theorem range12_some {a b : Int} {d : D} (h : range12 a b = some d) : d = .lst (rng a (b - a).toNat) ∧ (-(2 ^ 62) ≤ a ∧ a < 2 ^ 62) ∧ (-(2 ^ 62) ≤ b ∧ b < 2 ^ 62) ∧ (b - a).toNat ≤ sizeMax := by
  unfold range12 at h
  split at h <;> cases h
  rename_i k
  simp only [Bool.and_eq_true, decide_eq_true_eq] at k
  exact ⟨rfl, in62_iff k.1.1, in62_iff k.1.2, k.2⟩
theorem ri_range1 {as : Ex} {R : It → Hp → Prop} (h : RI K B Wx cf (.prim .range1 as) σ H R) : iRng1 (RA K B Wx cf as) σ H R := by
  obtain ⟨U, ρ, env, st, r, q⟩ := h
  simp only [srcL, evE] at q
  rw [bind_assoc] at q
  refine RA.first r q fun l ρ1 st1 H1 vs r1 x1 h1 q => ?_
  cases e : primD .range1 (l.map (resolve st1)) with
  | none => rw [e] at q; exact (show False from q).elim
  | some d =>
    rw [e] at q
    obtain ⟨a, v, rfl, hc, e⟩ := d1_inv (conts_of r1.toRelS h1) e
    obtain ⟨i, rfl, e⟩ := i1_inv e
    obtain ⟨rfl, h0, hi, _⟩ := range12_some e
    rw [cint hc]
    refine ⟨i, rfl, hi.1, hi.2, ?_⟩
    refine (q.here r1.toRelS) _ ?_
    rw [Int.sub_zero]
    exact it_rng
theorem ri_enum {as : Ex} {R : It → Hp → Prop} (h : RI K B Wx cf (.prim .enum as) σ H R) : iEnum K (RA K B Wx cf as) σ H R ∨ iEnumT K (RA K B Wx cf as) σ H R := by
  obtain ⟨U, ρ, env, st, r, q⟩ := h
  simp only [srcL, evE] at q
  rw [bind_assoc] at q
  cases el : evL cf as env st with
  | stuck => rw [el] at q; exact (show False from q).elim
  | exc a b => rw [el] at q; exact .inl ⟨U, ρ, env, st, r, by rw [el]; exact q⟩
  | ok l st1 =>
    by_cases ht : ∃ ds, l.map (resolve st1) = [.tup ds]
    · right
      obtain ⟨ds, hm⟩ := ht
      refine ⟨U, ρ, env, st, r, q.bind.mono fun l' ρ1 st1' H1 e' s x q vs hv => ?_⟩
      rw [el] at e'
      cases e'
      have c := conts_of s hv
      rw [hm] at c q
      obtain ⟨v, rr, rfl, hc, hr⟩ := c
      cases hr
      obtain ⟨a, vs, rfl, t, p⟩ := ctup hc
      exact ⟨a, vs, rfl, t.sq, (q.here s) _ (it_enumT t p)⟩
    · left
      refine ⟨U, ρ, env, st, r, q.bind.mono fun l' ρ1 st1' H1 e' s x q vs hv => ?_⟩
      rw [el] at e'
      cases e'
      have c := conts_of s hv
      cases e : primD .enum (l.map (resolve st1)) with
      | none => rw [e] at q; exact (show False from q).elim
      | some d =>
        rw [e] at q
        have hm : ∀ z, l.map (resolve st1) = [z] → ∀ ds, z ≠ .tup ds := fun z hz ds hd => ht ⟨ds, by rw [hz, hd]⟩
        cases hl : l.map (resolve st1) with
        | nil => rw [hl] at e; cases e
        | cons z zs =>
          rw [hl] at e c hm
          cases zs with
          | cons _ _ => cases e
          | nil =>
            obtain ⟨v, rr, rfl, hc, hr⟩ := c
            cases hr
            cases z with
            | tup ds => exact absurd rfl (hm _ rfl ds)
            | ro ds =>
              cases (show some (D.lst (enumD 0 ds)) = some d from e)
              obtain ⟨a, vs, rfl, t, p⟩ := cro hc
              exact ⟨a, vs, rfl, t.sq, (q.here s) _ (it_enum (.inr t) p)⟩
            | _ => cases e
theorem ri_enumE {a : Ex} {R : It → Hp → Prop} (h : RI K B Wx cf (.enumE a) σ H R) : iEnum K (tCons (RE K B Wx cf a) tNil) σ H R ∨ iEnumT K (tCons (RE K B Wx cf a) tNil) σ H R := by
  obtain ⟨U, ρ, env, st, r, q⟩ := h
  simp only [srcL, evE] at q
  rw [bind_assoc] at q
  cases el : evE cf a env st with
  | stuck => rw [el] at q; exact (show False from q).elim
  | exc x y => rw [el] at q; exact .inl ⟨U, ρ, env, st, r, by rw [el]; exact q⟩
  | ok d st1 =>
    by_cases ht : ∃ ds, resolve st1 d = .tup ds
    · right
      obtain ⟨ds, hm⟩ := ht
      refine ⟨U, ρ, env, st, r, q.bind.mono fun d' ρ1 st1' H1 e' s x q v hv => ?_⟩
      rw [el] at e'
      cases e'
      rw [bind_assoc] at q
      obtain ⟨st2, r2, x2, p, q⟩ := esc_ok (r.ext s x) hv q
      rw [hm] at p q
      simp only [Rep] at p
      obtain ⟨a, vs, rfl, t, p⟩ := p
      exact ⟨a, vs, rfl, t.sq, (q.here r2.toRelS) _ (it_enumT t p)⟩
    · left
      refine ⟨U, ρ, env, st, r, q.bind.mono fun d' ρ1 st1' H1 e' s x q v hv => ?_⟩
      rw [el] at e'
      cases e'
      rw [bind_assoc] at q
      obtain ⟨st2, r2, x2, p, q⟩ := esc_ok (r.ext s x) hv q
      cases k : resolve st1 d with
      | tup ds => exact absurd ⟨ds, k⟩ ht
      | lst ds =>
        rw [k] at p q
        simp only [Rep] at p
        obtain ⟨a, vs, rfl, t, p⟩ := p
        exact ⟨a, vs, rfl, .of t.2, (q.here r2.toRelS) _ (it_enum (.inl t) p)⟩
      | ro ds =>
        rw [k] at p q
        simp only [Rep] at p
        obtain ⟨a, vs, rfl, t, p⟩ := p
        exact ⟨a, vs, rfl, t.sq, (q.here r2.toRelS) _ (it_enum (.inr t) p)⟩
      | _ => rw [k] at q; exact (show False from q).elim
theorem ri_range2 {as : Ex} {R : It → Hp → Prop} (h : RI K B Wx cf (.prim .range2 as) σ H R) : iRng2 (RA K B Wx cf as) σ H R := by
  obtain ⟨U, ρ, env, st, r, q⟩ := h
  simp only [srcL, evE] at q
  rw [bind_assoc] at q
  refine RA.first r q fun l ρ1 st1 H1 vs r1 x1 h1 q => ?_
  cases e : primD .range2 (l.map (resolve st1)) with
  | none => rw [e] at q; exact (show False from q).elim
  | some d =>
    rw [e] at q
    obtain ⟨a, b, v, w, rfl, hc, hc2, e⟩ := d2_inv (conts_of r1.toRelS h1) e
    obtain ⟨i, j, rfl, rfl, e⟩ := i2_inv e
    obtain ⟨rfl, h0, hi, _⟩ := range12_some e
    rw [cint hc, cint hc2]
    exact ⟨i, j, rfl, ⟨h0.1, h0.2, hi.1, hi.2⟩, (q.here r1.toRelS) _ it_rng⟩
/-! #### the list of a comprehension stands aside while its items are made -/
def dr (D : Addr) (H : Hp) : Hp := fun a => if a = D then none else H a
theorem dr_at {D : Addr} {H : Hp} : dr D H D = none := by simp [dr]
theorem dr_ne {D a : Addr} {H : Hp} (h : a ≠ D) : dr D H a = H a := by simp [dr, h]
theorem dr_upd {D : Addr} {H : Hp} {o : HO} (h : H D = none) : dr D (upd H D o) = H := by
  funext a
  by_cases q : a = D
  · subst q; rw [dr_at, h]
  · rw [dr_ne q, upd_ne q]
theorem dr_upd2 {D : Addr} {H : Hp} {o : HO} : dr D (upd H D o) = dr D H := by
  funext a
  by_cases q : a = D
  · subst q; rw [dr_at, dr_at]
  · rw [dr_ne q, upd_ne q, dr_ne q]
theorem dr_grow {D : Addr} {H : Hp} : Grow (dr D H) H := fun a o h => by
  by_cases q : a = D
  · subst q; rw [dr_at] at h; cases h
  · rw [dr_ne q] at h; exact h
/-- U and D -/
abbrev UD (U : Addr → Prop) (D : Addr) : Addr → Prop := fun a => U a ∨ a = D
theorem aside (r : RelS K B.fa U ρ st H) {D : Addr} {o : HO} (h : H D = none) : RelS K B.fa (UD U D) ρ st (upd H D o) := by
  have nr : D ∉ ρ := fun z => by
    obtain ⟨i, hi⟩ := List.getElem?_of_mem z
    obtain ⟨c, _, hc⟩ := r.at hi
    obtain ⟨u, hu⟩ := hc.there
    rw [h] at hu
    cases hu
  have sp : Step (Wu U ρ st) H (Wu (UD U D) ρ st) (upd H D o) := ⟨fun a u hu _ => Grow.upd h a u hu, fun a w => by
    rcases w with (w | rfl) | w
    · exact .inl (.inl w)
    · exact .inr h
    · exact .inl (.inr w)⟩
  refine ⟨r.len, r.nd, fun a u => ?_, fun a u => ?_, fun i a c e1 e2 => ?_⟩
  · rcases u with u | rfl
    · exact r.ud a u
    · exact nr
  · rcases u with u | rfl
    · obtain ⟨q, hq⟩ := r.ut a u
      exact ⟨q, Grow.upd h a q hq⟩
    · exact ⟨o, upd_same⟩
  · exact (r.cell i a c e1 e2).step sp (upd_ne fun z => nr (z ▸ List.mem_of_getElem? e1))
/-- what stands aside may change -/
theorem aside_upd {D : Addr} {o : HO} (r : RelS K B.fa (UD U D) ρ st H) : RelS K B.fa (UD U D) ρ st (upd H D o) ∧ Step (Wu (UD U D) ρ st) H (Wu (UD U D) ρ st) (upd H D o) := by
  have sp : Step (Wu (UD U D) ρ st) H (Wu (UD U D) ρ st) (upd H D o) := ⟨fun a u hu w => by
    rw [upd_ne fun z => w (.inl (.inr z))]
    exact hu, fun a w => .inl w⟩
  refine ⟨⟨r.len, r.nd, r.ud, fun a u => ?_, fun i a c e1 e2 => ?_⟩, sp⟩
  · by_cases q : a = D
    · subst q; exact ⟨o, upd_same⟩
    · obtain ⟨z, hz⟩ := r.ut a u
      exact ⟨z, by rw [upd_ne q]; exact hz⟩
  · exact (r.cell i a c e1 e2).step sp (upd_ne fun z => r.ud D (.inr rfl) (z ▸ List.mem_of_getElem? e1))
/-- .. and is forgotten -/
theorem aside_drop {D : Addr} (hU : ¬ U D) (r : RelS K B.fa (UD U D) ρ st H) : RelS K B.fa U ρ st (dr D H) ∧ Step (Wu (UD U D) ρ st) H (Wu U ρ st) (dr D H) := by
  have sp : Step (Wu (UD U D) ρ st) H (Wu U ρ st) (dr D H) := ⟨fun a u hu w => by
    rw [dr_ne fun z => w (.inl (.inr z))]
    exact hu, fun a w => .inl (w.elim (fun w => .inl (.inl w)) .inr)⟩
  refine ⟨⟨r.len, r.nd, fun a u => r.ud a (.inl u), fun a u => ?_, fun i a c e1 e2 => ?_⟩, sp⟩
  · obtain ⟨z, hz⟩ := r.ut a (.inl u)
    exact ⟨z, by rw [dr_ne fun q => hU (by rw [← q]; exact u)]; exact hz⟩
  · exact (r.cell i a c e1 e2).step sp (dr_ne fun z => r.ud D (.inr rfl) (z ▸ List.mem_of_getElem? e1))
theorem ext_dr {D : Addr} {ρ' : List Addr} {st' : Store} {H' : Hp} (x : Ext ρ st H ρ' st' H') (hD : D ∉ ρ') : Ext ρ st (dr D H) ρ' st' (dr D H') := ⟨x.pre, fun a o h w => by
  by_cases q : a = D
  · subst q; rw [dr_at] at h; cases h
  · rw [dr_ne q] at h ⊢
    exact x.keep a o h w, fun a w => by
  have q : a ≠ D := fun z => by
    obtain ⟨i, c, h, _⟩ := w
    exact hD (z ▸ List.mem_of_getElem? h)
  rcases x.wr a w with z | z
  · exact .inl z
  · exact .inr (by rw [dr_ne q]; exact z)⟩
theorem wipe_eq : ∀ (env : Env) (own : List Nat), Py.wipe env own = own.foldr (fun i e => e.set i none) env
  | env, [] => rfl
  | env, i :: r => by simp [Py.wipe, wipe_eq env r]
theorem Rel.wipes (r : Rel K B.fa U ρ env st σ H) : ∀ own : List Nat, Rel K B.fa U ρ (Py.wipe env own) st (L2.wipe σ own) H
  | [] => r
  | i :: own => by
    have r1 := Rel.wipes r own
    refine ⟨r.toRelS, fun j d e => ?_⟩
    change ((Py.wipe env own).set i none)[j]? = some (some d) at e
    show ∃ v, ((L2.wipe σ own).set i none)[j]? = some (some v) ∧ _
    by_cases q : i = j
    · subst q
      have hl : i < ((Py.wipe env own).set i none).length := (List.getElem?_eq_some_iff.mp e).1
      rw [List.length_set] at hl
      rw [List.getElem?_set_self hl] at e
      cases e
    · rw [List.getElem?_set_ne q] at e ⊢
      exact r1.env j d e
/-- one turn -/
def stepC (cf : CallF) (elt : Ex) (own : List Nat) (tg c : Ex) (env : Env) (x : D) (st : Store) : Out (Option D) := match setTg tg x (wipe env own) with
  | some env' => (evE cf c env' st).bind fun b st => match truth (resolve st b) with
    | some true => (evE cf elt env' st).bind fun y st => (esc st y).bind fun y st => .ok (some y) st
    | some false => .ok .none st
    | .none => .stuck
  | .none => .stuck
def restC (f : D → Store → Out (Option D)) (done : List D) (l : List D) (st : Store) : Out D := (compL f l st).noexc.bind fun r st => if (done ++ r).length ≤ sizeMax then .ok (.lst (done ++ r)) st else .stuck
theorem evE_comp {elt : Ex} {own : List Nat} {tg src c : Ex} : evE cf (.comp elt own tg src c) env st = (srcL (evE cf src env st)).bind fun l st => restC (stepC cf elt own tg c env) [] l st := rfl
theorem rest_cons {f : D → Store → Out (Option D)} {done l : List D} {x : D} {C : D → List Addr → Store → Hp → Prop} {σ' : L2.St} {D : Addr} {U' : Addr → Prop} (hD : U' D)
    (q : Post K B U Wx σ ρ st (dr D H) (restC f done (x :: l) st) C) : Post K B U' (fun _ _ _ _ => False) σ' ρ st H (f x st) (fun y ρ' st' H' => Post K B U Wx σ ρ' st' (dr D H') (restC f (match y with | some d => done ++ [d] | none => done) l st') C) := by
  unfold restC at q
  simp only [compL] at q
  cases e : f x st with
  | stuck => rw [e] at q; exact (show False from q).elim
  | exc a b => rw [e] at q; exact (show False from q).elim
  | ok y st' =>
    rw [e] at q
    intro ρ' H' s x
    have q1 := Post.shift (ext_dr (D := D) x (s.ud D hD)) q
    unfold restC
    change Post K B U Wx σ ρ' st' (dr D H') (((compL f l st').bind fun ys st2 => match y with | some y => .ok (y :: ys) st2 | .none => .ok ys st2).noexc.bind _) C at q1
    cases e2 : compL f l st' with
    | stuck => rw [e2] at q1; exact (show False from q1).elim
    | exc a b => rw [e2] at q1; exact (show False from q1).elim
    | ok ys st2 =>
      rw [e2] at q1
      cases y with
      | none => exact q1
      | some y =>
        simp only [Out.bind, Out.noexc] at q1 ⊢
        have : done ++ [y] ++ ys = done ++ y :: ys := by simp
        rw [this]
        exact q1
theorem tc_len {done l : List D} {f : D → Store → Out (Option D)} {C : D → List Addr → Store → Hp → Prop} (q : Post K B U Wx σ ρ st H (restC f done l st) C) : done.length ≤ sizeMax := by
  unfold restC at q
  cases e : compL f l st with
  | ok r s =>
    rw [e] at q
    simp only [Out.noexc, Out.bind] at q
    split at q
    · rename_i h
      rw [List.length_append] at h
      omega
    · exact (show False from q).elim
  | _ => rw [e] at q; exact (show False from q).elim
/-- a comprehension's reading -/
theorem lc_all {elt : Ex} {own : List Nat} {tg src c : Ex} {tt : TT} {Q : VK} {C : D → List Addr → Store → Hp → Prop} {env : Env}
    (hs : ∀ i ∈ slots tg, i ∈ own) (htg : (∃ i, tg = .var i) ∨ ∃ us, tg = .tup us)
    (ht : ∀ σ H Q, RT K B (fun _ _ _ _ => False) cf c σ H Q → tt σ H Q)
    (r : Rel K B.fa U ρ env st σ H)
    (q : Post K B U Wx σ ρ st H (evE cf (.comp elt own tg src c) env st) C)
    (hC : ∀ (D : Addr) done vs ρ' st' H', ¬ U D → RelS K B.fa (UD U D) ρ' st' H' → Rel K B.fa (UD U D) ρ' env st' σ H' → H' D = some (.lst vs) → Reps K B.fa (Wu (UD U D) ρ' st') H' done vs → Post K B U Wx σ ρ' st' (dr D H') (.ok (.lst done) st') C → Q (.ref D) H') :
    tLc (RI K B Wx cf src) (RG K B tg) tt (RE K B (fun _ _ _ _ => False) cf elt) own σ H Q := by
  rw [evE_comp] at q
  refine ⟨U, ρ, env, st, r, q.bind.mono fun l ρ1 st1 H1 _ s1 x1 q J hJ D hD => ?_⟩
  have r1 := r.ext s1 x1
  have hU : ¬ U D := fun u => by
    obtain ⟨o, ho⟩ := s1.ut D u
    rw [hD] at ho
    cases ho
  refine ⟨fun i m Hc => i + m = l.length ∧ ∃ ρi sti done vs, Rel K B.fa (UD U D) ρi env sti σ Hc ∧ Step (Wu U ρ1 st1) H1 (Wu (UD U D) ρi sti) Hc ∧ Hc D = some (.lst vs) ∧ Reps K B.fa (Wu (UD U D) ρi sti) Hc done vs ∧ Post K B U Wx σ ρi sti (dr D Hc) (restC (stepC cf elt own tg c env) done (l.drop i) sti) C, ⟨l.length, by omega, ρ1, st1, [], [], ?_, ?_, upd_same, rfl, ?_⟩, fun i m Hc hW => ?_⟩
  · have sp : Step (Wu U ρ1 st1) H1 (Wu (UD U D) ρ1 st1) (upd H1 D (.lst [])) := ⟨fun a u hu _ => Grow.upd hD a u hu, fun a w => by
      rcases w with (w | rfl) | w
      · exact .inl (.inl w)
      · exact .inr hD
      · exact .inl (.inr w)⟩
    refine ⟨aside s1 hD, fun i d e => ?_⟩
    obtain ⟨v, e1, e2⟩ := r1.env i d e
    refine ⟨v, e1, ?_⟩
    cases d with
    | loc l => exact e2
    | _ => exact sp.rep _ _ e2
  · exact ⟨fun a u hu _ => Grow.upd hD a u hu, fun a w => by
      rcases w with (w | rfl) | w
      · exact .inl (.inl w)
      · exact .inr hD
      · exact .inl (.inr w)⟩
  · rw [dr_upd hD]
    exact q
  · obtain ⟨him, ρi, sti, done, vs, ri, sp, hd, pd, q⟩ := hW
    obtain ⟨hstop, hgo⟩ := hJ _ _ sp ri.toRelS.wu_some
    by_cases hi : l.length ≤ i
    · left
      refine ⟨hstop i hi, ?_⟩
      rw [List.drop_eq_nil_of_le hi] at q
      have hq : Post K B U Wx σ ρi sti (dr D Hc) (.ok (.lst done) sti) C := by
        have hl := tc_len q
        unfold restC at q
        simp only [compL, Out.noexc, Out.bind, List.append_nil, hl, if_true] at q
        exact q
      exact hC D done vs ρi sti Hc hU ri.toRelS ri hd pd hq
    · right
      have hi' : i < l.length := by omega
      obtain ⟨hg, hy⟩ := hgo i l[i] (List.getElem?_eq_getElem hi')
      rw [List.drop_eq_getElem_cons hi'] at q
      refine ⟨hg, fun H' => ∃ ρi sti done vs, Rel K B.fa (UD U D) ρi env sti σ H' ∧ Step (Wu U ρ1 st1) H1 (Wu (UD U D) ρi sti) H' ∧ H' D = some (.lst vs) ∧ Reps K B.fa (Wu (UD U D) ρi sti) H' done vs ∧ Post K B U Wx σ ρi sti (dr D H') (restC (stepC cf elt own tg c env) done (l.drop (i + 1)) sti) C, fun H' hN => ⟨l.length - (i + 1), by omega, by omega, hN⟩, fun x H' hy' => ?_⟩
      obtain ⟨gr, hx⟩ := hy x H' hy'
      have ri' := ri.grow gr
      have q' : Post K B U Wx σ ρi sti (dr D H') (restC (stepC cf elt own tg c env) done (l[i] :: l.drop (i + 1)) sti) C := by
        refine Post.shift ⟨⟨[], by simp⟩, fun a o h w => ?_, fun a w => .inl w⟩ q
        by_cases z : a = D
        · subst z; rw [dr_at] at h; cases h
        · rw [dr_ne z] at h ⊢; exact gr a o h
      have q2 := rest_cons (K := K) (B := B) (σ' := L2.wipe σ own) (U' := UD U D) (H := H') (D := D) (.inr rfl) q'
      unfold stepC at q2
      cases k : setTg tg l[i] (wipe env own) with
      | none => rw [k] at q2; exact (show False from q2).elim
      | some env' =>
        rw [k] at q2
        have hres : resolve sti l[i] = l[i] := by
          cases w : l[i] <;> first | rfl | (rw [w] at hx; simp [Rep] at hx)
        refine ⟨UD U D, ρi, Py.wipe env own, sti, l[i], env', ri'.wipes own, VRel.of hx, ?_, fun σ2 r2 w2 => ⟨?_, ?_⟩⟩
        · rcases htg with ⟨j, rfl⟩ | ⟨us, rfl⟩
          · exact setTg_var k
          · simp only [hres]
            exact k
        · have := w2 own hs
          rw [this]
          have id2 : ∀ (vs : List Nat) (τ : L2.St), (∀ i ∈ own, i ∈ vs) → L2.wipe (L2.wipe τ own) vs = L2.wipe τ vs := by
            clear w2 r2 k q2 q' hx
            intro vs
            have : ∀ (os : List Nat) (τ : L2.St), (∀ i ∈ os, i ∈ vs) → L2.wipe (L2.wipe τ os) vs = L2.wipe τ vs := by
              intro os
              induction os with
              | nil => intro τ _; rfl
              | cons j os ih =>
                intro τ h
                show L2.wipe ((L2.wipe τ os).set j none) vs = _
                rw [wipe_set (h j List.mem_cons_self)]
                exact ih τ fun i hi => h i (List.mem_cons_of_mem _ hi)
            exact fun τ h => this own τ h
          exact id2 own σ fun _ h => h
        · have r3 : Rel K B.fa (UD U D) ρi env' sti σ2 H' := r2
          have q3 := post_at (Wx' := fun _ _ _ _ => False) (σ' := σ2) (fun _ _ _ w => w) q2
          refine ht σ2 H' _ ⟨UD U D, ρi, env', sti, r3, q3.bind.mono fun b ρ4 st4 H4 _ s4 x4 q => ?_⟩
          have r4 := r3.ext s4 x4
          have bk : ∀ (ρ5 : List Addr) (st5 : Store) (H5 : Hp), RelS K B.fa (UD U D) ρ5 st5 H5 → Ext ρi sti H' ρ5 st5 H5 → Rel K B.fa (UD U D) ρ5 env st5 σ H5 ∧ Step (Wu U ρ1 st1) H1 (Wu (UD U D) ρ5 st5) H5 ∧ H5 D = some (.lst vs) ∧ Reps K B.fa (Wu (UD U D) ρ5 st5) H5 done vs := fun ρ5 st5 H5 s5 x5 => by
            have e := (gr.ext (ρ := ρi) (st := sti)).trans x5
            refine ⟨ri'.ext s5 x5, sp.trans (e.step (U := UD U D)), ?_, e.step.reps _ _ pd⟩
            refine e.keep D _ hd fun w => ?_
            obtain ⟨j, cc, hj, _⟩ := w
            exact ri.ud D (.inr rfl) (List.mem_of_getElem? hj)
          cases ek : truth (resolve st4 b) with
          | none => rw [ek] at q; exact (show False from q).elim
          | some kk =>
            rw [ek] at q
            refine ⟨kk, rfl, ?_⟩
            cases kk with
            | false =>
              rw [if_neg Bool.false_ne_true]
              obtain ⟨a1, a2, a3, a4⟩ := bk ρ4 st4 H4 s4 x4
              exact ⟨ρ4, st4, done, vs, a1, a2, a3, a4, q.here s4⟩
            | true =>
              rw [if_pos rfl]
              refine RE.first r4 q fun y ρ5 st5 H5 v r5 x5 hv q => ?_
              obtain ⟨st6, r6, x6, p6, q⟩ := esc_ok r5 hv q
              obtain ⟨a1, a2, a3, a4⟩ := bk ρ5 st6 H5 r6.toRelS ((x4.trans x5).trans x6)
              have q6 := q.here r6.toRelS
              have hl := tc_len q6
              simp only [List.length_append, List.length_singleton] at hl
              have hlen := pd.length
              refine ⟨vs, a3, by rw [← hlen, ← sz]; omega, ?_⟩
              obtain ⟨b1, b2⟩ := aside_upd (o := .lst (vs ++ [v])) a1.toRelS
              refine ⟨ρ5, st6, done ++ [resolve st5 y], vs ++ [v], ⟨b1, fun j d e => ?_⟩, a2.trans b2, upd_same, ?_, ?_⟩
              · obtain ⟨w, e1, e2⟩ := a1.env j d e
                refine ⟨w, e1, ?_⟩
                cases d with
                | loc l => exact e2
                | _ => exact b2.rep _ _ e2
              · exact b2.reps _ _ (a4.append (by simp only [Reps]; exact ⟨v, [], rfl, p6, rfl⟩))
              · rw [dr_upd2]
                exact q6
theorem re_comp {elt : Ex} {own : List Nat} {tg src c : Ex} {tt : TT} {Q : VK}
    (hs : ∀ i ∈ slots tg, i ∈ own) (htg : (∃ i, tg = .var i) ∨ ∃ us, tg = .tup us)
    (ht : ∀ σ H Q, RT K B (fun _ _ _ _ => False) cf c σ H Q → tt σ H Q) (h : RE K B Wx cf (.comp elt own tg src c) σ H Q) :
    tLc (RI K B Wx cf src) (RG K B tg) tt (RE K B (fun _ _ _ _ => False) cf elt) own σ H Q := by
  obtain ⟨U, ρ, env, st, r, q⟩ := h
  refine lc_all hs htg ht r q fun D done vs ρ' st' H' hU s _ hd pd q => ?_
  obtain ⟨s2, sp⟩ := aside_drop hU s
  refine (q.grown s2 dr_grow) _ (VRel.of ?_)
  simp only [Rep]
  refine ⟨D, vs, rfl, ⟨fun w => ?_, hd⟩, dr_grow.step.reps _ _ (sp.reps _ _ pd)⟩
  rcases w with w | w
  · exact hU w
  · obtain ⟨j, cc, hj, _⟩ := w
    exact s.ud D (.inr rfl) (List.mem_of_getElem? hj)
theorem rn_comp {elt : Ex} {own : List Nat} {tg src c : Ex} {tt : TT} {Q : VK}
    (hs : ∀ i ∈ slots tg, i ∈ own) (htg : (∃ i, tg = .var i) ∨ ∃ us, tg = .tup us)
    (ht : ∀ σ H Q, RT K B (fun _ _ _ _ => False) cf c σ H Q → tt σ H Q) (h : RN K B Wx cf (.comp elt own tg src c) σ H Q) :
    tLc (RI K B Wx cf src) (RG K B tg) tt (RE K B (fun _ _ _ _ => False) cf elt) own σ H Q := by
  obtain ⟨U, ρ, env, st, r, q⟩ := h
  have e : (evE cf (.comp elt own tg src c) env st).bind newD = evE cf (.comp elt own tg src c) env st := by
    rw [evE_comp, bind_assoc]
    cases srcL (evE cf src env st) with
    | ok l s =>
      show (restC _ [] l s).bind newD = restC _ [] l s
      unfold restC
      cases compL (stepC cf elt own tg c env) l s with
      | ok y s2 =>
        simp only [Out.noexc, Out.bind]
        by_cases hh : ([] ++ y).length ≤ sizeMax
        · rw [if_pos hh]; rfl
        · rw [if_neg hh]
      | _ => rfl
    | _ => rfl
  rw [e] at q
  refine lc_all hs htg ht r q fun D done vs ρ' st' H' hU s rr hd pd q => ?_
  obtain ⟨s2, sp⟩ := aside_drop hU s
  have nr : D ∉ ρ' := s.ud D (.inr rfl)
  have we : ∀ a, Wu U (ρ' ++ [D]) (st' ++ [⟨false, .lst done⟩]) a ↔ Wu (UD U D) ρ' st' a := fun a => by
    unfold Wu
    rw [wr_push s.len]
    constructor
    · rintro (h | h | ⟨h, _⟩)
      · exact .inl (.inl h)
      · exact .inr h
      · exact .inl (.inr h)
    · rintro ((h | h) | h)
      · exact .inl h
      · exact .inr (.inr ⟨h, rfl⟩)
      · exact .inr (.inl h)
  have sw : Step (Wu (UD U D) ρ' st') H' (Wu U (ρ' ++ [D]) (st' ++ [⟨false, .lst done⟩])) H' := ⟨fun _ _ h _ => h, fun a w => .inl ((we a).mp w)⟩
  refine (q.here s2) D H' ⟨⟨by simp [s.len], ?_, fun a u => ?_, fun a u => s.ut a (.inl u), fun i a cc e1 e2 => ?_⟩, fun i d e => ?_⟩ ⟨⟨[D], rfl⟩, fun a o h _ => dr_grow a o h, fun a w => ?_⟩
  · rw [List.nodup_append]
    exact ⟨s.nd, by simp, fun a ha b hb => by simp at hb; subst hb; exact fun z => nr (z ▸ ha)⟩
  · simp only [List.mem_append, List.mem_singleton, not_or]
    exact ⟨s.ud a (.inl u), fun z => hU (z ▸ u)⟩
  · by_cases hi : i < ρ'.length
    · rw [List.getElem?_append_left hi] at e1
      rw [List.getElem?_append_left (by have := s.len; omega)] at e2
      exact (s.cell i a cc e1 e2).step sw rfl
    · rw [List.getElem?_append_right (by omega)] at e1
      rw [List.getElem?_append_right (by have := s.len; omega), ← s.len] at e2
      cases k : i - ρ'.length with
      | succ n => rw [k] at e1; simp at e1
      | zero =>
        rw [k] at e1 e2
        simp at e1 e2
        subst e1 e2
        exact ⟨vs, hd, sw.reps _ _ pd⟩
  · obtain ⟨v, e1, e2⟩ := rr.env i d e
    refine ⟨v, e1, ?_⟩
    cases d with
    | loc l =>
      obtain ⟨a, z1, z2⟩ := e2
      exact ⟨a, z1, by rw [List.getElem?_append_left (List.getElem?_eq_some_iff.mp z2).1]; exact z2⟩
    | _ => exact sw.rep _ _ e2
  · rcases (wr_push s.len).mp w with h | ⟨rfl, _⟩
    · exact .inl h
    · exact .inr dr_at
end
end Py
end
section
set_option Elab.async false
set_option linter.all false
set_option maxRecDepth 100000
namespace Py
open PySem L2
/-! ### more built-in functions -/
section
variable {K : Frg} {fa : Nat → Addr} {W : Addr → Prop} {H : Hp}
/-- isinstance -/
def tyOfD : D → String
  | .none => "NoneType" | .bl _ => "bool" | .int _ => "int" | .str _ => "str" | .tup _ => "tuple" | .lst _ => "list" | .dct _ _ => "dict" | _ => ""
theorem kit_has (d : D) (t : Ty) (h : plain d = true) : kitB (tyOfD d) (tyName t) = some (hasTy t d) := by
  have k : ∀ s : String, s ∈ ["NoneType", "bool", "int", "str", "tuple", "list", "dict"] → ∀ t : Ty, kitB s (tyName t) = some (match t, s with
    | .int, "int" => true | .int, "bool" => true | .bool, "bool" => true | .str, "str" => true | .tuple, "tuple" => true | .list, "list" => true | _, _ => false) := by
    intro s hs t
    simp only [List.mem_cons, List.not_mem_nil, or_false] at hs
    rcases hs with rfl | rfl | rfl | rfl | rfl | rfl | rfl <;> cases t <;> decide +kernel
  cases d <;> simp only [plain, Bool.false_eq_true] at h <;> simp only [tyOfD] <;> rw [k _ (by decide)] <;> cases t <;> rfl
theorem ty_of {d : D} {v : V} (h : Cont K fa W H d v) (hp : plain d = true) : TyX K H v (.type (tyOfD d)) := by
  cases d with
  | none => rw [cnone h]; exact .base .non
  | bl b => rw [cbl h]; exact .base (.bl b)
  | int b => rw [cint h]; exact .base (.int b)
  | str b => rw [cstr h]; exact .base (.str _)
  | fn j => simp [plain] at hp
  | loc j => simp [plain] at hp
  | ro j => simp [plain] at hp
  | tup l =>
    obtain ⟨a, vs, rfl, t, _⟩ := ctup h
    rcases t.sq with (t | ⟨o, t⟩) | ⟨o, its, n, t, c, _⟩
    · exact .base (.tup t)
    · exact .fTuple t
    · exact .kTuple t c
  | lst l => obtain ⟨a, vs, rfl, t, _⟩ := clst h; exact .base (.lst t)
  | dct k l => obtain ⟨a, vs, rfl, t, _⟩ := cdct h; exact .base (.dK t)
/-- the names of types, as values -/
def tyVs (ts : List Ty) : List V := ts.map fun t => V.ty (tyName t)
def rIsaD (K : Frg) (fa : Nat → Addr) (ts : List Ty) : V → Hp → VK → Prop := fun x H Q => ∃ W d, Cont K fa W H d x ∧ plain d = true ∧ Q (.bl (ts.any fun t => hasTy t d)) H
theorem kit_any {d : D} (hp : plain d = true) : ∀ ts : List Ty, PySem.W.kitAny K (.type (tyOfD d)) (ts.map fun t => Value.type (tyName t)) = some (ts.any fun t => hasTy t d)
  | [] => rfl
  | t :: ts => by
    have h1 := kit_ty (K := K) (kit_has d t hp)
    have h2 := kit_any hp ts
    simp only [List.map_cons, PySem.W.kitAny, h1, List.any_cons]
    cases hasTy t d with
    | true => rfl
    | false => simpa using h2
theorem cls_all : ∀ ts : List Ty, Paired ClsV (tyVs ts) (ts.map fun t => Value.type (tyName t))
  | [] => .nil
  | t :: ts => .cons (.ty _) (cls_all ts)
theorem int_bits (n : Nat) : ((Builtin.Int.intBits (Int.ofNat n) : Nat) : Int) = if n = 0 then 0 else ((Nat.log2 n + 1 : Nat) : Int) := by
  unfold Builtin.Int.intBits
  by_cases h : n = 0
  · subst h; rfl
  · rw [if_neg h, if_neg (by simp; omega)]
    try rfl
/-- list.index -/
theorem ixGo_spec {x : D} : ∀ {l : List D} {i : Nat} {d : D}, ixGo x i l = some d → ∃ j, d = .int ((i + j : Nat) : Int) ∧ (∃ z, l[j]? = some z ∧ eqB eqDeep z x = true) ∧ ∀ m z', m < j → l[m]? = some z' → eqB eqDeep z' x = false
  | [], i, d, h => by simp [ixGo] at h
  | y :: ys, i, d, h => by
    simp only [ixGo] at h
    cases k : eqB eqDeep y x with
    | true =>
      rw [k] at h
      cases h
      exact ⟨0, rfl, ⟨y, rfl, k⟩, fun m z' hm => by omega⟩
    | false =>
      rw [k] at h
      obtain ⟨j, rfl, ⟨z, h1, h2⟩, h3⟩ := ixGo_spec h
      refine ⟨j + 1, by congr 2; omega, ⟨z, by simpa using h1, h2⟩, fun m z' hm hz => ?_⟩
      cases m with
      | zero =>
        simp only [List.getElem?_cons_zero, Option.some.injEq] at hz
        subst hz
        exact k
      | succ m => exact h3 m z' (by omega) (by simpa using hz)
theorem index_ok {l : List D} {x d : D} {v1 v2 : V} {Q : VK} (h1 : Cont K fa W H (.lst l) v1) (h2 : Cont K fa W H x v2) (e : pIndex (.lst l) x = some d) (q : ∀ v, Rep K fa W H d v → Q v H) : rIndexD K v1 [v2] H Q := by
  simp only [pIndex] at e
  split at e
  case isFalse => cases e
  rename_i o
  rw [Bool.and_eq_true, List.all_eq_true] at o
  obtain ⟨o2, o1⟩ := o
  obtain ⟨j, rfl, ⟨z, hz, hq⟩, hf⟩ := ixGo_spec e
  obtain ⟨a, vs, rfl, t, r⟩ := clst h1
  obtain ⟨m1, m2⟩ := ok_lays l _ o2
  have em : ∀ m : Nat, (toPys l)[m]? = l[m]?.map toPy := fun m => by rw [toPys_map, List.getElem?_map]
  have zin : z ∈ l := List.mem_of_getElem? hz
  refine ⟨a, v2, toPy x, toPys l, j, toPy z, rfl, rfl, .lst (.of t) (reps_dp l vs _ o2 r), cont_dp o1 h2, ?_, ok_shaped o1, by rw [em, hz]; rfl, ?_, fun m z' hm e' => ?_, q _ (by rw [Nat.zero_add]; exact rep_int)⟩
  · have hd : eqDeep = 40 := rfl
    show (PyData.canLay0 (.list (toPys l)) && decide (PyData.depth (.list (toPys l)) ≤ 64)) = true
    rw [Bool.and_eq_true, decide_eq_true_eq]
    refine ⟨?_, by simp only [PyData.depth]; omega⟩
    simp only [PyData.canLay0]
    exact m1
  · rw [eqv_eqB z x eqDeep (o2 z zin) o1]; exact hq
  · rw [em] at e'
    cases k : l[m]? with
    | none => rw [k] at e'; cases e'
    | some y =>
      rw [k] at e'
      cases e'
      rw [eqv_eqB y x eqDeep (o2 y (List.mem_of_getElem? k)) o1]
      exact hf m y hm k
end
/-! comb -/
theorem falling_succ (a : Int) (n : Nat) : Builtin.Math.fallingProduct a (n + 1) = Builtin.Math.fallingProduct a n * (a - n) := by
  simp only [Builtin.Math.fallingProduct, List.range_succ, List.foldl_append, List.foldl_cons, List.foldl_nil]
def desc (n : Nat) : Nat → Nat
  | 0 => 1
  | k + 1 => desc n k * (n - k)
theorem falling_desc (n : Nat) : ∀ k, k ≤ n → Builtin.Math.fallingProduct (Int.ofNat n) k = (desc n k : Nat)
  | 0, _ => rfl
  | k + 1, h => by
    rw [falling_succ, falling_desc n k (by omega), desc]
    have : (Int.ofNat n - (k : Int)) = ((n - k : Nat) : Int) := by simp only [Int.ofNat_eq_natCast]; omega
    rw [this, ← Int.natCast_mul]
theorem fact_pos : ∀ n, 0 < fact n
  | 0 => by simp [fact]
  | n + 1 => by simp only [fact]; exact Nat.mul_pos (by omega) (fact_pos n)
theorem desc_fact (n : Nat) : ∀ k, k ≤ n → desc n k * fact (n - k) = fact n
  | 0, _ => by simp [desc]
  | k + 1, h => by
    have e : n - k = (n - (k + 1)) + 1 := by omega
    have ih := desc_fact n k (by omega)
    rw [e, fact] at ih
    rw [desc, Nat.mul_assoc, e]
    exact ih
theorem choose_lt : ∀ n k, n < k → choose n k = 0
  | _, 0, h => by omega
  | 0, k + 1, _ => rfl
  | n + 1, k + 1, h => by
    rw [choose, choose_lt n k (by omega), choose_lt n (k + 1) (by omega)]
theorem choose_fact : ∀ n k, k ≤ n → choose n k * (fact k * fact (n - k)) = fact n
  | 0, 0, _ => by simp [choose, fact]
  | 0, k + 1, h => by omega
  | n + 1, 0, _ => by simp [choose, fact]
  | n + 1, k + 1, h => by
    have i1 := choose_fact n k (by omega)
    rw [choose, Nat.add_mul, show n + 1 - (k + 1) = n - k by omega, fact, fact]
    have a1 : choose n k * ((k + 1) * fact k * fact (n - k)) = (k + 1) * fact n := by
      rw [← i1]; ac_rfl
    rw [a1]
    by_cases q : k = n
    · subst q
      rw [choose_lt k (k + 1) (by omega)]
      simp
    · have i2 := choose_fact n (k + 1) (by omega)
      have e : n - k = (n - (k + 1)) + 1 := by omega
      have a2 : choose n (k + 1) * ((k + 1) * fact k * fact (n - k)) = (n - k) * fact n := by
        rw [← i2, fact, e, fact]
        have e2 : n - (k + 1) + 1 = n - k := by omega
        ac_rfl
      rw [a2, ← Nat.add_mul]
      congr 1
      omega
theorem choose_desc {n k : Nat} (h : k ≤ n) : choose n k * fact k = desc n k := by
  refine Nat.eq_of_mul_eq_mul_right (fact_pos (n - k)) ?_
  rw [desc_fact n k h, Nat.mul_assoc]
  exact choose_fact n k h
theorem desc_self (k : Nat) : desc k k = fact k := by
  have := desc_fact k k (Nat.le_refl _)
  simpa [fact] using this
theorem choose_symm {n k : Nat} (h : k ≤ n) : choose n (n - k) = choose n k := by
  refine Nat.eq_of_mul_eq_mul_right (Nat.mul_pos (fact_pos k) (fact_pos (n - k))) ?_
  rw [choose_fact n k h]
  have := choose_fact n (n - k) (by omega)
  rw [show n - (n - k) = k by omega] at this
  rw [← this]
  ac_rfl
theorem comb_choose (n k : Nat) : PySem.W.mcComb (Int.ofNat n) (Int.ofNat k) = (choose n k : Nat) := by
  unfold PySem.W.mcComb
  by_cases h : n < k
  · rw [if_pos (by simp; omega), choose_lt n k h]
    try rfl
  · rw [if_neg (by simp; omega)]
    have key : ∀ m : Nat, m ≤ n → Builtin.Math.fallingProduct (Int.ofNat n) m / Builtin.Math.fallingProduct (Int.ofNat m) m = (choose n m : Nat) := by
      intro m hm
      rw [falling_desc n m hm, falling_desc m m (Nat.le_refl _), desc_self, ← choose_desc hm]
      rw [Int.natCast_mul, Int.mul_ediv_cancel _ (by have := fact_pos m; omega)]
    have hm : min (Int.ofNat k) (Int.ofNat n - Int.ofNat k) = Int.ofNat (min k (n - k)) := by
      simp only [Int.ofNat_eq_natCast]; omega
    rw [hm]
    show Builtin.Math.fallingProduct (Int.ofNat n) (min k (n - k)) / Builtin.Math.fallingProduct (Int.ofNat (min k (n - k))) (min k (n - k)) = _
    rw [key _ (by omega)]
    rcases Nat.le_total k (n - k) with q | q
    · rw [Nat.min_eq_left q]
    · rw [Nat.min_eq_right q, choose_symm (by omega)]
def rCombD : List V → Hp → VK → Prop := fun xs H Q => ∃ n k : Nat, n ≤ 1000 ∧ xs = [.int (Int.ofNat n), .int (Int.ofNat k)] ∧ Q (.int (choose n k : Nat)) H
theorem same_heap {X : Cx} {pins : List (Addr × Obj)} {σ : L2.St} {H : Hp} {s : Shared} {t' : Nat} (I : L2.Inv X pins σ H s) : L2.Inv X pins σ H { heap := s.heap, gens := s.gens, drawn := s.drawn, toks := t', os := s.os } :=
  I.turnedL (ch := []) (fun _ _ _ h => h) (fun _ h => nomatch h)
theorem call_combD {X : Cx} : CallR X (.builtin "math.comb") rCombD := by
  intro pins s σ H xs us Q I hv h
  obtain ⟨n, k, hn, rfl, q⟩ := h
  cases hv with
  | cons h1 h2 =>
    cases h2 with
    | cons h2 h3 =>
      cases h3
      obtain ⟨t1, rfl⟩ := h1
      obtain ⟨t2, rfl⟩ := h2
      exact PySem.W.mc_comb_v (c := (choose n k : Nat)) (Int.natCast_nonneg _) (Int.natCast_nonneg _) (by simp; omega) (.inr (by simp; omega)) (comb_choose n k) ⟨.int (choose n k : Nat), H, same_heap I, ⟨_, rfl⟩, q⟩
/-! greatest and least of a tuple -/
def rMaxT (K : Frg) : List V → Hp → VK → Prop := fun xs H Q => ∃ (a : Addr) (ns : List Int), xs = [.ref a] ∧ SqT K H a (ns.map V.int) ∧ 0 < ns.length ∧ ∀ m, m ∈ ns → (∀ y, y ∈ ns → y ≤ m) → Q (.int m) H
def rMinT (K : Frg) : List V → Hp → VK → Prop := fun xs H Q => ∃ (a : Addr) (ns : List Int), xs = [.ref a] ∧ SqT K H a (ns.map V.int) ∧ 0 < ns.length ∧ ∀ m, m ∈ ns → (∀ y, y ∈ ns → m ≤ y) → Q (.int m) H
theorem maxD_int : ∀ (xs : List Int) (x : Int), PySem.W.maxD (.int x) (xs.map PyData.int) = .int (maxI x xs)
  | [], x => rfl
  | y :: ys, x => by
    have h := maxD_int ys (if x < y then y else x)
    simp only [PySem.W.maxD, List.map_cons, List.foldl_cons] at h ⊢
    have e : PySem.W.dataLt (.int x) (.int y) = decide (x < y) := by simp [PySem.W.dataLt, PySem.W.keyToks, PyProof.Rows.lexLt, PyProof.Rows.itemOrd, PyProof.Rows.itemLt]
    rw [e, maxI, ilt_iff]
    by_cases c : x < y
    · simp only [c, decide_true, if_true] at h ⊢; exact h
    · simp only [c, decide_false, if_false] at h ⊢; exact h
theorem minD_int : ∀ (xs : List Int) (x : Int), PySem.W.minD (.int x) (xs.map PyData.int) = .int (minI x xs)
  | [], x => rfl
  | y :: ys, x => by
    have h := minD_int ys (if y < x then y else x)
    simp only [PySem.W.minD, List.map_cons, List.foldl_cons] at h ⊢
    have e : PySem.W.dataLt (.int y) (.int x) = decide (y < x) := by simp [PySem.W.dataLt, PySem.W.keyToks, PyProof.Rows.lexLt, PyProof.Rows.itemOrd, PyProof.Rows.itemLt]
    rw [e, minI, ilt_iff]
    by_cases c : y < x
    · simp only [c, decide_true, if_true] at h ⊢; exact h
    · simp only [c, decide_false, if_false] at h ⊢; exact h
theorem depth_ints : ∀ xs : List Int, PyData.depthAll (xs.map PyData.int) = 0
  | [] => rfl
  | x :: xs => by simp [PyData.depthAll, PyData.depth, depth_ints xs]
theorem alike_ints (xs : List Int) : PySem.W.AlikeAll (xs.map PyData.int) := ⟨fun x hx y hy => by
  simp only [List.mem_map] at hx hy
  obtain ⟨i, _, rfl⟩ := hx
  obtain ⟨j, _, rfl⟩ := hy
  rfl, fun x hx => by
  simp only [List.mem_map] at hx
  obtain ⟨i, _, rfl⟩ := hx
  intro z
  cases z⟩
theorem dp_ints {K : Frg} {H : Hp} : ∀ ns : List Int, DpAll K H (ns.map V.int) (ns.map PyData.int)
  | [] => .nil
  | n :: ns => .cons (.int n) (dp_ints ns)
theorem call_maxT {X : Cx} (hh : X.A.handled = none) (hu : X.A.units + 190 < cLine) : CallR X (.builtin "max") (rMaxT X.K) := by
  intro pins s σ H xs us Q I hv h
  obtain ⟨a, ns, rfl, t, hl, q⟩ := h
  cases hv with
  | cons h1 h2 =>
    cases h2
    obtain rfl : _ = Value.ref a := h1
    obtain ⟨as, rd⟩ := Dp.reads I _ _ _ (Dp.tup t (dp_ints ns)) (rfl : RelV (.ref a) (.ref a))
    cases ns with
    | nil => simp at hl
    | cons x xs =>
      cases rd with
      | tuple g1 g2 g3 g4 =>
        have sp := maxI_spec xs x
        have memx : maxI x xs ∈ x :: xs := by
          rcases sp.1 with e | e
          · rw [e]; exact List.mem_cons_self
          · exact List.mem_cons_of_mem _ e
        have boundx : ∀ y, y ∈ x :: xs → y ≤ maxI x xs := fun y hy => by
          rcases List.mem_cons.mp hy with rfl | hy
          · exact sp.2.1
          · exact sp.2.2 _ hy
        refine PySem.W.max_tuple_data (x := .int x) (xs := xs.map PyData.int) hh ⟨_, g1, g2, _, g3⟩ g4 (alike_ints (x :: xs)) ?_ fun i v h' tk bs e rv gr => ?_
        · have := depth_ints (x :: xs)
          simp only [List.map_cons] at this
          rw [this]
          omega
        · rw [maxD_int] at rv
          cases rv with
          | int i t => exact ⟨.int (maxI x xs), H, I.turnedL (ch := []) (fun b o _ h => gr b o h) (fun _ h => nomatch h), ⟨_, rfl⟩, q _ memx boundx⟩
theorem call_minT {X : Cx} (hh : X.A.handled = none) (hu : X.A.units + 190 < cLine) : CallR X (.builtin "min") (rMinT X.K) := by
  intro pins s σ H xs us Q I hv h
  obtain ⟨a, ns, rfl, t, hl, q⟩ := h
  cases hv with
  | cons h1 h2 =>
    cases h2
    obtain rfl : _ = Value.ref a := h1
    obtain ⟨as, rd⟩ := Dp.reads I _ _ _ (Dp.tup t (dp_ints ns)) (rfl : RelV (.ref a) (.ref a))
    cases ns with
    | nil => simp at hl
    | cons x xs =>
      cases rd with
      | tuple g1 g2 g3 g4 =>
        have sp := minI_spec xs x
        have memx : minI x xs ∈ x :: xs := by
          rcases sp.1 with e | e
          · rw [e]; exact List.mem_cons_self
          · exact List.mem_cons_of_mem _ e
        have boundx : ∀ y, y ∈ x :: xs → minI x xs ≤ y := fun y hy => by
          rcases List.mem_cons.mp hy with rfl | hy
          · exact sp.2.1
          · exact sp.2.2 _ hy
        refine PySem.W.min_tuple_data (x := .int x) (xs := xs.map PyData.int) hh ⟨_, g1, g2, _, g3⟩ g4 (alike_ints (x :: xs)) ?_ fun i v h' tk bs e rv gr => ?_
        · have := depth_ints (x :: xs)
          simp only [List.map_cons] at this
          rw [this]
          omega
        · rw [minD_int] at rv
          cases rv with
          | int i t => exact ⟨.int (minI x xs), H, I.turnedL (ch := []) (fun b o _ h => gr b o h) (fun _ h => nomatch h), ⟨_, rfl⟩, q _ memx boundx⟩
theorem callR_or {X : Cx} {f : Value} {r r' : List V → Hp → VK → Prop} (h : CallR X f r) (h' : CallR X f r') : CallR X f (fun xs H Q => r xs H Q ∨ r' xs H Q) :=
  fun pins s σ H xs us Q I hv q => q.elim (h pins s σ H xs us Q I hv) (h' pins s σ H xs us Q I hv)
section
variable {K : Frg} {fa : Nat → Addr} {W : Addr → Prop} {H : Hp}
theorem cintsT {a : D} {v : V} {ns : List Int} (h : Cont K fa W H a v) (e : intsT a = some ns) : ∃ p, v = .ref p ∧ (SqL K H p (ns.map V.int) ∨ SqT K H p (ns.map V.int)) := by
  cases a <;> simp only [intsT, reduceCtorEq] at e
  · obtain ⟨p, vs, rfl, t, r⟩ := ctup h
    rw [r.toInts e] at t
    exact ⟨p, rfl, .inr t.sq⟩
  · obtain ⟨p, vs, rfl, t, r⟩ := clst h
    rw [r.toInts e] at t
    exact ⟨p, rfl, .inl (.of t)⟩
theorem ok_max1 : PrimOK K fa (d1 pMax1) (fun xs H Q => rMax K xs H Q ∨ rMaxT K xs H Q) := by
  intro W H ds vs d Q hw hc e q
  obtain ⟨a, v, rfl, h, e⟩ := d1_inv hc e
  unfold pMax1 at e
  split at e
  case h_2 => cases e
  rename_i x xs k
  cases e
  obtain ⟨p, rfl, t⟩ := cintsT h k
  have s := maxI_spec xs x
  have key : ∀ m, m ∈ x :: xs → (∀ y, y ∈ x :: xs → y ≤ m) → Q (.int m) H := fun m hm hle => by
    have : m = maxI x xs := by
      refine Int.le_antisymm ?_ (hle _ ?_)
      · rcases List.mem_cons.mp hm with rfl | hm
        · exact s.2.1
        · exact s.2.2 _ hm
      · rcases s.1 with h1 | h1
        · rw [h1]; exact List.mem_cons_self
        · exact List.mem_cons_of_mem _ h1
    rw [this]
    exact q _ _ Grow.refl rep_int
  rcases t with t | t
  · exact .inl ⟨p, x :: xs, rfl, t, by simp, key⟩
  · exact .inr ⟨p, x :: xs, rfl, t, by simp, key⟩
theorem ok_min1I : PrimOK K fa (d1 fun a => match intsT a with | some (x :: xs) => some (.int (minI x xs)) | _ => .none) (fun xs H Q => rMin K xs H Q ∨ rMinT K xs H Q) := by
  intro W H ds vs d Q hw hc e q
  obtain ⟨a, v, rfl, h, e⟩ := d1_inv hc e
  split at e
  case h_2 => cases e
  rename_i x xs k
  cases e
  obtain ⟨p, rfl, t⟩ := cintsT h k
  have s := minI_spec xs x
  have key : ∀ m, m ∈ x :: xs → (∀ y, y ∈ x :: xs → m ≤ y) → Q (.int m) H := fun m hm hle => by
    have : m = minI x xs := by
      refine Int.le_antisymm (hle _ ?_) ?_
      · rcases s.1 with h1 | h1
        · rw [h1]; exact List.mem_cons_self
        · exact List.mem_cons_of_mem _ h1
      · rcases List.mem_cons.mp hm with rfl | hm
        · exact s.2.1
        · exact s.2.2 _ hm
    rw [this]
    exact q _ _ Grow.refl rep_int
  rcases t with t | t
  · exact .inl ⟨p, x :: xs, rfl, t, by simp, key⟩
  · exact .inr ⟨p, x :: xs, rfl, t, by simp, key⟩
end
end Py
end
section
set_option Elab.async false
set_option linter.all false
set_option maxRecDepth 100000
namespace Py
open PySem L2
/-! ### min of a list of rows (tuples of ints) -/
theorem ltI_iff : ∀ xs ys : List Int, ltI xs ys = decide (xs < ys)
  | [], [] => by simp [ltI]
  | [], y :: ys => by simp [ltI]
  | x :: xs, [] => by simp [ltI]
  | x :: xs, y :: ys => by
    rw [ltI, ltI_iff xs ys, ieq_iff, ilt_iff]
    by_cases e : x = y
    · subst e; simp
    · rw [Bool.eq_iff_iff]
      simp [List.cons_lt_cons_iff, e]
theorem inj_ints : ∀ (a b : List Int), a.map PyData.int = b.map PyData.int → a = b
  | [], [], _ => rfl
  | x :: xs, y :: ys, h => by
    simp only [List.map_cons, List.cons.injEq, PyData.int.injEq] at h
    rw [h.1, inj_ints xs ys h.2]
theorem minD_rows : ∀ (rows : List (List Int)) (x : List Int), PySem.W.minD (.tuple (x.map .int)) (rows.map fun r => .tuple (r.map .int)) = .tuple ((minRow x rows).map .int)
  | [], x => rfl
  | y :: ys, x => by
    have h := minD_rows ys (if ltI y x then y else x)
    simp only [PySem.W.minD, List.map_cons, List.foldl_cons] at h ⊢
    have e : PySem.W.dataLt (.tuple (y.map .int)) (.tuple (x.map .int)) = ltI y x := by
      rw [ltI_iff, ← PySem.W.dataLt_ints, PySem.W.dataLt_tuple]
      try rfl
    rw [e, minRow]
    cases c : ltI y x with
    | true => rw [c] at h; simpa using h
    | false => rw [c] at h; simpa using h
theorem minRow_mem : ∀ (rows : List (List Int)) (x : List Int), minRow x rows ∈ x :: rows
  | [], x => by simp [minRow]
  | y :: ys, x => by
    have h := minRow_mem ys (if ltI y x then y else x)
    rw [minRow]
    cases c : ltI y x <;> simp only [c] at h ⊢ <;> simp at h ⊢ <;> rcases h with h | h <;> simp [h]
theorem alike_rows (rows : List (List Int)) : PySem.W.AlikeAll (rows.map fun r => PyData.tuple (r.map .int)) := ⟨fun x hx y hy => by
  simp only [List.mem_map] at hx hy
  obtain ⟨r, _, rfl⟩ := hx
  obtain ⟨r', _, rfl⟩ := hy
  rw [PySem.W.alike]
  exact PySem.W.alike_ints r r', fun x hx => by
  simp only [List.mem_map] at hx
  obtain ⟨i, _, rfl⟩ := hx
  intro z
  cases z⟩
theorem depth_rows : ∀ rows : List (List Int), PyData.depthAll (rows.map fun r => PyData.tuple (r.map .int)) ≤ 1
  | [] => by simp [PyData.depthAll]
  | r :: rs => by
    have := depth_rows rs
    have h := depth_ints r
    simp only [List.map_cons, PyData.depthAll, PyData.depth, h]
    omega
theorem intsD_eq : ∀ {l : List D} {ns : List Int}, intsD l = some ns → l = ns.map D.int
  | [], ns, h => by simp [intsD] at h; subst h; rfl
  | d :: r, ns, h => by
    cases d <;> simp only [intsD, reduceCtorEq] at h
    rename_i i
    cases k : intsD r with
    | none => rw [k] at h; cases h
    | some m => rw [k] at h; cases h; rw [intsD_eq k]; rfl
theorem rowI_eq {d : D} {r : List Int} (h : rowI d = some r) : d = .tup (r.map .int) := by
  cases d <;> simp only [rowI, reduceCtorEq] at h
  rw [intsD_eq h]
section
variable {K : Frg} {fa : Nat → Addr} {W : Addr → Prop} {H : Hp}
theorem row_dp {r : List Int} {v : V} (h : Rep K fa W H (.tup (r.map .int)) v) : Dp K H v (.tuple (r.map .int)) := by
  have o : okD eqDeep (.tup (r.map .int)) = true := by
    simp [eqDeep, okD, List.all_eq_true]
  have := rep_dp _ _ _ o h
  have e : toPy (.tup (r.map .int)) = .tuple (r.map .int) := by
    rw [toPy, toPys_map]
    simp [Function.comp_def, toPy]
  rwa [e] at this
theorem rows_dp : ∀ {l : List D} {rows : List (List Int)} {vs : List V}, rowsI l = some rows → Reps K fa W H l vs → DpAll K H vs (rows.map fun r => .tuple (r.map .int)) ∧ l = rows.map fun r => .tup (r.map .int)
  | [], rows, vs, h, p => by
    simp [rowsI] at h
    subst h
    cases p
    exact ⟨.nil, rfl⟩
  | d :: r, rows, vs, h, p => by
    simp only [rowsI] at h
    cases k : rowI d with
    | none => rw [k] at h; cases h
    | some x =>
      rw [k] at h
      simp only at h
      cases k2 : rowsI r with
      | none => rw [k2] at h; cases h
      | some m =>
        rw [k2] at h
        cases h
        obtain ⟨v, rr, rfl, h1, h2⟩ := p
        obtain ⟨i1, i2⟩ := rows_dp k2 h2
        have := rowI_eq k
        subst this
        exact ⟨.cons (row_dp h1) i1, by rw [i2]; rfl⟩
def rMinR (K : Frg) : List V → Hp → VK → Prop := fun xs H Q => ∃ (a : Addr) (vs : List V) (x : List Int) (rows : List (List Int)), xs = [.ref a] ∧ SqL K H a vs ∧ DpAll K H vs ((x :: rows).map fun r => .tuple (r.map .int)) ∧
  ∀ (i : Nat) (v : V), vs[i]? = some v → (x :: rows)[i]? = some (minRow x rows) → Q v H
theorem call_minR {X : Cx} (hh : X.A.handled = none) (hu : X.A.units + 190 < cLine) : CallR X (.builtin "min") (rMinR X.K) := by
  intro pins s σ H xs us Q I hv h
  obtain ⟨a, vs, x, rows, rfl, t, dp, q⟩ := h
  cases hv with
  | cons h1 h2 =>
    cases h2
    obtain rfl : _ = Value.ref a := h1
    obtain ⟨its, rv, p, hz⟩ := I.list t
    obtain ⟨as, rd⟩ := Dp.readsAll I _ _ _ dp rv
    have al := alike_rows (x :: rows)
    rw [List.map_cons] at al
    refine PySem.W.min_list_data (x := .tuple (x.map .int)) (xs := rows.map fun r => .tuple (r.map .int)) hh p.isList (by simpa using rd) al ?_ fun i v h' tk bs e rv' gr => ?_
    · have := depth_rows (x :: rows)
      simp only [List.map_cons] at this
      omega
    · rw [minD_rows] at rv'
      have e1 : its[i]? = some v := by simpa using e
      obtain ⟨bs', r1, r2, _, _⟩ := PySem.W.readsAll_at rd i v e1
      have hl : i < (x :: rows).length := by simpa using r2
      have r1' : Reads h' v (.tuple (((x :: rows)[i]'hl).map .int)) bs' := by
        have := PySem.W.reads_keeps gr r1
        rw [List.getD_eq_getElem?_getD, List.getElem?_map, List.getElem?_eq_getElem hl] at this
        exact this
      have ea := PySem.W.alike_unique _ _ _ _ _ (by rw [PySem.W.alike]; exact PySem.W.alike_ints _ _) r1' rv'
      have inj : ∀ (a b : List Int), (PyData.tuple (a.map .int)) = .tuple (b.map .int) → a = b := fun a b h => by
        injection h with h
        exact inj_ints a b h
      have hm := inj _ _ ea
      have hvl : i < vs.length := by
        have := (List.getElem?_eq_some_iff.mp e1).1
        rw [rv.length]; exact this
      obtain ⟨u, hu, ru⟩ := rv.get (List.getElem?_eq_getElem hvl)
      rw [e1] at hu
      cases hu
      exact ⟨vs[i], H, I.turnedL (ch := []) (fun b o _ h => gr b o h) (fun _ h => nomatch h), ru, q i _ (List.getElem?_eq_getElem hvl) (by rw [List.getElem?_eq_getElem hl, hm])⟩
theorem ok_min1 : PrimOK K fa (d1 pMin1) (fun xs H Q => (rMin K xs H Q ∨ rMinT K xs H Q) ∨ rMinR K xs H Q) := by
  intro W H ds vs d Q hw hc e q
  match ds, e, hc with
  | [a], e0, hc =>
    have e : pMin1 a = some d := e0
    clear e0
    unfold pMin1 at e
    cases k : intsT a with
    | some l =>
      cases l with
      | nil => rw [k] at e; cases e
      | cons x xs =>
        rw [k] at e
        exact .inl (ok_min1I W H [a] vs d Q hw hc (by simp only [d1, k]; exact e) q)
    | none =>
      rw [k] at e
      simp only at e
      right
      obtain ⟨v, rr, rfl, h1, h2⟩ := hc
      cases h2
      cases a <;> simp only [pMinR, reduceCtorEq] at e
      rename_i l
      cases k2 : rowsI l with
      | none => rw [k2] at e; cases e
      | some rows =>
        rw [k2] at e
        cases rows with
        | nil => cases e
        | cons x rows =>
          cases e
          obtain ⟨a, vs, rfl, t, p⟩ := clst h1
          obtain ⟨dp, hl⟩ := rows_dp k2 p
          refine ⟨a, vs, x, rows, rfl, .of t, dp, fun i w hi hm => ?_⟩
          have hd : l[i]? = some (.tup ((minRow x rows).map .int)) := by rw [hl, List.getElem?_map, hm]; rfl
          obtain ⟨v, e1, e2⟩ := p.get hd
          rw [hi] at e1
          cases e1
          exact q _ _ Grow.refl e2
end
end Py
end
section
set_option Elab.async false
set_option linter.all false
set_option maxRecDepth 100000
namespace Py
open PySem PySem.Spec PyProof.Rows L2
/-! ### sorted(set(xs)) of a list of ints -/
section
variable {P : Program} {w : World} {A : Around} {E : Value → Shared → Prop} {s : Shared}
set_option maxHeartbeats 3200000 in
theorem call_set_lstI {l : Addr} {itms : Array Value} (nums : List Int) {Q : Value → Shared → Prop} (hhan : A.handled = none) (hlist : s.heap.IsList l itms) (hints : IntsAre itms.toList nums) (hbnd : nums.length + 1 < scanBound)
    (hgoal : ∀ (hpq : Heap) (tkk cq : Nat), SetR w hpq s.heap.objs.size (fun j => decide (j ∈ nums)) cq → cq ≤ nums.length → (∀ bq oq, s.heap.get? bq = some oq → hpq.get? bq = some oq) → Q (.ref s.heap.objs.size) { s with heap := hpq, toks := tkk }) :
    wpAny (model P w) A (call (.type
        "set") [.ref l]) Q E s := by
  have hsz : itms.size = nums.length := by
    have q := IntsAre.length hints
    rw [Array.length_toList] at q
    exact q
  obtain ⟨cq, tlq, hmroq⟩ := F.called_set.mro
  have hmadeq := F.called_set.made
  have hsubq := F.called_set.sub
  refine wpAny_call (codeAny_of_tree
      ?_)
  show wpAny _ _ (callAny
      (.type "set") _) _ _ _
  refine wpAny_pure ⟨Code.quiet_builtin _ 
    (by decide +kernel), codeAny_builtin F.entry_type_call ?_⟩
  rw [Around.under_plain (weight_type_call_type
      "set" [.ref l] []) rfl]
  have hq1 := F.called_set.notType
  have hq2 := F.called_set.canCreate
  have hctq := F.typeCall_set_1 (.ref l)
  repeat (any_goals (first
      | assumption | wp_step))

  refine codeAny_mono (code_set_led1 (.ref l) (E := E) (Q₁ := fun objq sq1 => objq = .ref s.heap.objs.size ∧ sq1 = { s with heap := s.heap.push { cls := .type "set", dict := none, data := .set #[] 0 (.fresh 0 0 (!w.params.followText "set-order")) } }) ⟨rfl, rfl⟩) fun rq sq1 hrq => ?_
  cases rq with
  | error e => exact hrq
  | ok flq =>
    cases flq with
    | ret objq =>
      obtain ⟨rfl, rfl⟩ := hrq
      have hSet : (s.heap.push { cls := .type "set", dict := none, data := .set #[] 0 (.fresh 0 0 (!w.params.followText "set-order")) }).get? s.heap.objs.size = some { cls := .type "set", dict := none, data := .set #[] 0 (.fresh 0 0 (!w.params.followText "set-order")) } := Heap.get?_push_size _ rfl
      have hTy : Shared.TypeIs { s with heap := s.heap.push { cls := .type "set", dict := none, data := .set #[] 0 (.fresh 0 0 (!w.params.followText "set-order")) } } (.ref s.heap.objs.size) "set" := ⟨_, hSet, rfl⟩
      have hliq := F.called_set.init.lookup
      have hbiq := F.called_set.init.bind (.ref s.heap.objs.size)
      repeat (any_goals (first
          | assumption | wp_step))

      refine codeAny_mono (codeAny_call_builtin (R := wants (fun rq sq2 => rq = .none ∧ ∃ hpq tkk cq, sq2 = { s with heap := hpq, toks := tkk } ∧ SetR w hpq s.heap.objs.size (fun j => decide (j ∈ nums)) cq ∧ cq ≤ nums.length ∧
          (∀ bq oq, s.heap.get? bq = some oq → hpq.get? bq = some oq)) E) F.called_set.init.plain F.entry_set_init (check_set_init_1 hTy ?_)) fun rq2 sq2 hrq2 => ?_
      · obtain ⟨olq, holq, hclq, nlq, hdlq⟩ := hlist
        obtain ⟨oc, od, odt, osl⟩ := olq
        simp only at hclq hdlq
        subst hclq; subst hdlq
        have holp : (s.heap.push { cls := .type "set", dict := none, data := .set #[] 0 (.fresh 0 0 (!w.params.followText "set-order")) }).get? l = some { cls := .type "list", dict := od, data := .seq itms nlq, slots := osl } := Heap.get?_push_of_some _ holq
        have hs1q := F.sub_list_set
        have hs2q := F.sub_list_frozenset
        have hneq : (Value.type "list" == Value.type "dict") = false := by decide
        have hlq1 : (s.heap.push { cls := .type "set", dict := none, data := .set #[] 0 (.fresh 0 0 (!w.params.followText "set-order")) }).IsList l itms := ⟨_, holp, rfl, nlq, rfl⟩
        unfold Builtin.«set.__init__» noKeywords
            Builtin.Frozenset.updateFrom
        generalize hPIq : pyIter = PIq
        wp_walk
        subst hPIq

        refine wpAny_pyIter_list hlq1 ?_
        refine wpAny_bind (wpAny_runValue
            ?_)
        have hlSq : l < s.heap.objs.size := Heap.lt_size holq
        have hhan3 : A.in1.in1.in1.handled = none := by simp [hhan]
        have hzq1 : (s.heap.push { cls := .type "set", dict := none, data := .set #[] 0 (.fresh 0 0 (!w.params.followText "set-order")) }).objs.size = s.heap.objs.size + 1 := Heap.size_push ..
        have hneIq : l ≠ (s.heap.push { cls := .type "set", dict := none, data := .set #[] 0 (.fresh 0 0 (!w.params.followText "set-order")) }).objs.size := by
          rw [Heap.size_push]; exact Nat.ne_of_lt (Nat.lt_succ_of_lt hlSq)
        have hSfq : s.heap.objs.size ∉ [(s.heap.push { cls := .type "set", dict := none, data := .set #[] 0 (.fresh 0 0 (!w.params.followText "set-order")) }).objs.size, l] := by
          rw [Heap.size_push]; simp only [List.mem_cons, List.mem_singleton,
              List.not_mem_nil, or_false, not_or]
          exact ⟨Nat.ne_of_lt (Nat.lt_succ_self _), Nat.ne_of_gt hlSq⟩
        have hvalq : ∀ (i : Nat) (v : Value), itms[i]? = some v → ∃ k t, nums[i]? = some k ∧ v = .int k t := fun i v hvq => by
          have hiq : i < nums.length := by rw [← hsz]; exact (Array.getElem?_eq_some_iff.mp hvq).1
          obtain ⟨t, e⟩ := PyProof.Rows.IntsAre.int_at hints i v (by rw [Array.getElem?_toList]; exact hvq)
          refine ⟨nums[i], t, List.getElem?_eq_getElem hiq, ?_⟩
          rw [e, List.getD_eq_getElem?_getD, List.getElem?_eq_getElem hiq] <;> rfl
        refine set_update_ints ((Walks.list hhan3 _ l hneIq itms).toS) s.heap.objs.size
          hSfq nums hsz hbnd hvalq (itms.size - 0) 0 _ (by omega) (Nat.zero_le _)
          ⟨⟨_, Heap.get?_push_size _ rfl, rfl, rfl⟩, (hlq1.push _)⟩ ?hS0 ?hR
        case hS0 =>
          have hgetq : ((s.heap.push { cls := .type "set", dict := none, data := .set #[] 0 (.fresh 0 0 (!w.params.followText "set-order")) }).push { cls := .type "list_iterator", data := .fields #[.ref l, .int 0 0] }).get? s.heap.objs.size
              = some { cls := .type "set", dict := none, data := .set #[] 0 (.fresh 0 0 (!w.params.followText "set-order")) } := Heap.get?_push_of_some _ hSet
          exact ⟨0, Nat.le_refl 0, setR_new_at hgetq⟩
        case hR =>
          intro s' cq2 hmq hcq2 hSq2
          obtain ⟨hpq, gq2, dq2, tkq, osq⟩ := s'
          have egq : gq2 = s.gens := hmq.gens
          have edq : dq2 = s.drawn := hmq.drawn
          have eoq : osq = s.os := hmq.os
          subst egq; subst edq; subst eoq
          show wpAny _ _ _ _ _ _
          refine wpAny_pure ?_
          show wpAny _ _ (ret
              Value.none) _ _ _
          rw [hsz] at hcq2
          refine wpAny_pure ⟨rfl, hpq, tkq, cq2, rfl, hSq2, hcq2, fun bq oq e => ?_⟩
          have hbq0 : bq < s.heap.objs.size := Heap.lt_size e
          have hbq1 : bq ≠ s.heap.objs.size := Nat.ne_of_lt hbq0
          have hbq2 : bq ≠ (s.heap.push { cls := .type "set", dict := none, data := .set #[] 0 (.fresh 0 0 (!w.params.followText "set-order")) }).objs.size := by
            rw [Heap.size_push]; exact Nat.ne_of_lt (Nat.lt_succ_of_lt hbq0)
          exact hmq.heap bq oq (by simp only [List.mem_cons, List.mem_singleton, List.not_mem_nil, or_false, not_or]; exact ⟨hbq1, hbq2⟩) (Heap.get?_push_of_some _ (Heap.get?_push_of_some _ e))

      · cases rq2 with
        | error e => exact hrq2
        | ok flq2 =>
          cases flq2 with
          | ret rq =>
            obtain ⟨rfl, hpq, tkk, cq2, rfl, hSq2, hcq2, hkq2⟩ := hrq2
            repeat (any_goals (first
                | assumption | wp_step))
            exact hgoal _ _ _ hSq2 hcq2 hkq2
          | _ => exact hrq2.elim
    | _ => exact hrq.elim

end
section
variable {X : Cx}
/-- set(xs) -/
def rSetOfI (K : PySem.W.Frag) (w : World) : List V → Hp → VK → Prop := fun xs H Q => ∃ (l : Addr) (ns : List Int), xs = [V.ref l] ∧ SqL K H l (ns.map V.int) ∧ ns.length < 64 ∧
  ∀ (a : Addr) (S : Int → Bool) (n : Nat), H a = none → (∀ k, S k = true ↔ k ∈ ns) → n ≤ ns.length → Q (.ref a) (upd H a (SetO w a S n))
theorem call_setOfI (hc : X.calm = true) : CallR X (.type "set") (rSetOfI X.K X.w) := by
  intro pins s σ H xs us Q I rr h
  obtain ⟨l, ns, rfl, hl, hn, q⟩ := h
  rw [Vals.ref1 rr]
  obtain ⟨its, rv, pl,
      hz⟩ := I.list hl
  have hf : H s.heap.objs.size = none :=
      I.hok.fresh (Nat.le_refl _)
  refine call_set_lstI (P := X.prog) (w := X.w) ns (I.ok.hd hc) pl.isList (by simpa using ints_of_vals rv) (by unfold scanBound; omega) fun hp tk c R hcn k => ?_
  exact ⟨.ref s.heap.objs.size, upd H s.heap.objs.size (SetO X.w s.heap.objs.size _ c), I.laid (t' := tk) k (Nat.le_refl _) (setO_new R), rfl, q _ _ c hf (fun k => by simp) hcn⟩
end
section
variable {K : Frg} {fa : Nat → Addr} {W : Addr → Prop} {H : Hp}
theorem dedupI_mem : ∀ (l : List Int) (k : Int), k ∈ dedupI l ↔ k ∈ l
  | [], k => by simp [dedupI]
  | x :: xs, k => by
    have ih := dedupI_mem xs k
    rw [dedupI]
    split
    · rename_i h
      rw [ih]
      constructor
      · exact List.mem_cons_of_mem _
      · intro h2
        rcases List.mem_cons.mp h2 with rfl | h2
        · obtain ⟨y, hy, e⟩ := List.any_eq_true.mp h
          rw [ieq_iff, decide_eq_true_eq] at e
          exact e ▸ hy
        · exact h2
    · rw [List.mem_cons, ih, List.mem_cons]
theorem dedupI_nodup : ∀ l : List Int, (dedupI l).Nodup
  | [] => by simp [dedupI]
  | x :: xs => by
    rw [dedupI]
    split
    · exact dedupI_nodup xs
    · rename_i h
      refine List.nodup_cons.mpr ⟨fun hm => ?_, dedupI_nodup xs⟩
      have : (xs.any fun y => ieq y x) = true := List.any_eq_true.mpr ⟨x, (dedupI_mem xs x).mp hm, by rw [ieq_iff]; simp⟩
      rw [this] at h
      cases h
theorem lt_nodup : ∀ {l : List Int}, l.Pairwise (· < ·) → l.Nodup
  | _, h => h.imp fun h => Int.ne_of_lt h
theorem set_unique {ns ns' : List Int} (h1 : ns'.Pairwise (· < ·)) (h2 : ∀ k, k ∈ ns' ↔ k ∈ ns) : ns' = sortI (dedupI ns) := by
  have p : ns'.Perm (sortI (dedupI ns)) := (List.perm_ext_iff_of_nodup (lt_nodup h1) ((sortI_perm _).nodup_iff.mpr (dedupI_nodup ns))).mpr fun k => by
    rw [h2, (sortI_perm (dedupI ns)).mem_iff, dedupI_mem]
  exact sorted_unique (h1.imp fun h => Int.le_of_lt h) (sortI_sorted _) p
theorem ok_sset {w : World} : PrimOK K fa (d1 pSortedSet) (fun xs H Q => rSetOfI K w xs H fun v H1 => rSortedSet w [v] H1 Q) := by
  intro W H ds vs d Q hw hc e q
  obtain ⟨a, v, rfl, h, e⟩ := d1_inv hc e
  unfold pSortedSet at e
  cases k : intsL a with
  | none => rw [k] at e; cases e
  | some ns =>
    rw [k] at e
    simp only at e
    split at e <;> cases e
    rename_i hb
    have hl : ns.length < 64 := by
      have : ns.length + 1 ≤ 64 := by simpa [Nat.blt] using hb
      omega
    obtain ⟨p, rfl, t⟩ := cintsL h k
    refine ⟨p, ns, rfl, t, hl, fun a S n ha hS hn => ⟨a, S, n, rfl, upd_same .., by omega, fun ns' p2 h1 h2 h3 hp2 => ?_⟩⟩
    have : ns' = sortI (dedupI ns) := set_unique h1 fun k => (h2 k).trans (hS k)
    rw [this]
    have g : Grow H (upd H a (SetO w a S n)) := Grow.upd ha
    exact q _ _ (g.trans (Grow.upd hp2)) (rep_lst_new (fun x hx => by obtain ⟨o, ho⟩ := hw x hx; exact ⟨o, g _ _ ho⟩) hp2 Reps.of_ints)
end
/-! ### factorial, up to 12 -/
def rFactD : List V → Hp → VK → Prop := fun xs H Q => ∃ n : Nat, n ≤ 12 ∧ xs = [.int (Int.ofNat n)] ∧ Q (.int (fact n : Nat)) H
theorem fact_is {n : Nat} (h : n ≤ 12) : (Builtin.Math.factorialNat n = fact n) ∧ ((fact n : Nat) : Int).natAbs.log2 < bitsLine := by
  have hn : n = 0 ∨ n = 1 ∨ n = 2 ∨ n = 3 ∨ n = 4 ∨ n = 5 ∨ n = 6 ∨ n = 7 ∨ n = 8 ∨ n = 9 ∨ n = 10 ∨ n = 11 ∨ n = 12 := by omega
  rcases hn with rfl | rfl | rfl | rfl | rfl | rfl | rfl | rfl | rfl | rfl | rfl | rfl | rfl <;> exact ⟨by decide +kernel, by decide +kernel⟩
theorem call_factD {X : Cx} : CallR X (.builtin "math.factorial") rFactD := by
  intro pins s σ H xs us Q I hv h
  obtain ⟨n, hn, rfl, q⟩ := h
  cases hv with
  | cons h1 h2 =>
    cases h2
    obtain ⟨t1, rfl⟩ := h1
    obtain ⟨f1, f2⟩ := fact_is hn
    have m1 : Builtin.Math.maxSsize ≥ 12 := by decide +kernel
    have m2 : Builtin.Math.manyFactors ≥ 12 := by decide +kernel
    have hi : (Int.ofNat n) = (n : Int) := rfl
    refine PySem.W.mg_factorial_v (c := (fact n : Nat)) (by rw [hi]; omega) (by rw [hi]; omega) (by rw [hi]; omega) (by show ((Builtin.Math.factorialNat n : Nat) : Int) = _; rw [f1]) f2 ?_
    exact ⟨.int (fact n : Nat), H, same_heap I, ⟨_, rfl⟩, q⟩
/-! ### xs[i], by values -/
def rGetN (K : PySem.W.Frag) : V → V → Hp → VK → Prop := fun o i H Q => ∃ (p : Addr) (xs : List V) (k : Nat) (z : V), o = .ref p ∧ i = .int (Int.ofNat k) ∧ H p = some (.lst xs) ∧ xs[k]? = some z ∧ Q z H
theorem get_lst {X : Cx} : PGet X (rGetN X.K) := by
  intro pins s σ H o i ov iv Q I ro ri h
  obtain ⟨p, xs, k, z, rfl, rfl, hp, hx, q⟩ := h
  cases ro
  obtain ⟨t, rfl⟩ := ri
  obtain ⟨its, rv, pl, hz⟩ := I.list (SqL.of hp)
  obtain ⟨w, ew, rw'⟩ := rv.get hx
  have hl := rv.length
  have hk : k < xs.length := (List.getElem?_eq_some_iff.mp hx).1
  have hn := line63
  have hi : Int.ofNat k = (k : Int) := rfl
  exact wpAny_getItem_list pl.isList (by rw [hi]; omega) (by rw [hi]; omega) (by rw [hi]; simpa using ew) ⟨z, H, I, rw', q⟩
end Py
end
section
set_option Elab.async false
set_option linter.all false
set_option maxRecDepth 100000
namespace Py
open PySem L2
/-! ### terms and trees -/
section
variable {K : Frg} {B : Tab} {U : Addr → Prop} {Wx : WX} {cf : CallF} {σ : L2.St} {H : Hp} {ρ : List Addr} {env : Env} {st : Store}
def tO (K : Frg) (B : Tab) (Wx : WX) (cf : CallF) (e : Option Expr) (lo : Ex) : TO := match e with | none => tNoPart | some _ => tPart (RE K B Wx cf lo)
theorem isCN_eq {lo : Ex} (h : isCN lo = true) : lo = .cst .none := by
  cases lo <;> simp [isCN] at h
  rename_i d
  cases d <;> simp at h
  try rfl
theorem part_step {β : Type} {e : Option Expr} {lo : Ex} {g : D → Store → Out β} {C : β → List Addr → Store → Hp → Prop} {R : Option Int → Hp → Prop} (he : isCN lo = e.isNone) (r : Rel K B.fa U ρ env st σ H)
    (q : Post K B U Wx σ ρ st H ((evE cf lo env st).bind fun y st => if partOk (isCN lo) y = true then g y st else .stuck) C)
    (k : ∀ y o ρ1 st1 H1, partOf y = some o → Rel K B.fa U ρ1 env st1 σ H1 → Ext ρ st H ρ1 st1 H1 → Post K B U Wx σ ρ1 st1 H1 (g y st1) C → R o H1) : tO K B Wx cf e lo σ H R := by
  cases e with
  | none =>
    obtain rfl := isCN_eq he
    simp only [evE, Out.bind] at q
    exact k .none none ρ st H rfl r Ext.refl q
  | some e =>
    show tPart (RE K B Wx cf lo) σ H R
    refine RE.first r q fun y ρ1 st1 H1 v r1 x1 h1 q => ?_
    rw [show isCN lo = false from he] at q
    cases y <;> simp only [partOk, Bool.not_false, if_true, Bool.false_eq_true, if_false] at q <;> first
      | (exact (show False from q).elim)
      | (rename_i i; exact ⟨i, cint (r1.toRelS.cont h1), k (.int i) (some i) _ _ _ rfl r1 x1 q⟩)
theorem re_slc {a lo hi : Ex} {elo ehi : Option Expr} {Q : VK} (h1 : isCN lo = elo.isNone) (h2 : isCN hi = ehi.isNone) (h : RE K B Wx cf (.slc a lo hi) σ H Q) : tSl (rSlD K) (RE K B Wx cf a) (tO K B Wx cf elo lo) (tO K B Wx cf ehi hi) σ H Q := by
  obtain ⟨U, ρ, env, st, r, q⟩ := h
  simp only [evE] at q
  refine RE.first r q fun x ρ1 st1 H1 v1 r1 x1 hv q => part_step h1 r1 q fun y o1 ρ2 st2 H2 e1 r2 x2 q => part_step h2 r2 q fun z o2 ρ3 st3 H3 e2 r3 x3 q => ?_
  obtain ⟨d, e, q⟩ := q.fing (p := fun _ => True) r3.toRelS
  obtain ⟨p1, p2, f1, f2, g⟩ := ok_slc (fun a w => r3.toRelS.wrThere w) (r3.toRelS.cont ((x2.trans x3).vrel hv)) e q
  rw [e1] at f1
  rw [e2] at f2
  cases f1
  cases f2
  exact g
/-! what stands around -/
def bltL : List String := ["len", "tuple", "list", "sum", "any", "all", "min", "max", "sorted", "abs", "int", "bool", "str", "isinstance", "range", "enumerate", "set"]
structure Glob (P : Program) (w : World) (K : Frg) (mg : Str → Option Value) (base : Heap) (B : Tab) (tx : Tx) (k : Nat) : Prop where
  call : ∀ j x, tx.nm[j]? = some x → FnOk P w K mg base (CX P w) k (B.fa j) (B.fd j) (B.ps j) (spCall K B (callF B.T k) j) ∧ mg x = some (.ref (B.fa j)) ∧ W.keepIn K (.ref (B.fa j)) = true ∧ Binds K (B.fd j) (B.ps j) []
  con : ∀ x d, conB tx.con x d = true → ∃ u v, mg x = some u ∧ RelV v u ∧ ∀ W H, Rep K B.fa W H d v
  blt : ∀ s ∈ bltL, mg (Str.ofString s) = none
  comb : tx.cm = true → mg (Str.ofString "comb") = some (.builtin "math.comb")
  fact : tx.fm = true → mg (Str.ofString "factorial") = some (.builtin "math.factorial")
structure XOK (B : Tab) (tx : Tx) (k : Nat) (N : List Str) (sc : Scope) (fn : Str → Bool) (Wx : WX) (X : Cx) : Prop where
  calm : X.calm = true
  hN : X.N = N
  nd : N.Nodup
  sc : X.env.scope = sc
  fn : ∀ x, fn x = true → X.fn x = true
  room : Room k X.A
  tk : Takes X Wx
  gl : Glob X.prog X.w X.K X.mg X.base B tx k
variable {tx : Tx} {k : Nat} {N : List Str} {sc : Scope} {fn : Str → Bool} {X : Cx}
theorem XOK.hu (h : XOK B tx k N sc fn Wx X) : X.A.units + 190 < cLine := by have := h.room.un; omega
theorem XOK.blk (h : XOK B tx k N sc fn Wx X) (s : Shared) (H : Hp) (C : Addr) (cl : List (Str × Addr)) (fp : List Addr) (scope : Scope) :
    XOK B tx k N (rl scope sc) (fnOf scope) (fun _ _ _ _ => False) (X.blk s H scope (compEnvC scope cl C X.env) fp) where
  calm := h.calm
  hN := h.hN
  nd := h.nd
  sc := by rw [← h.sc]; rfl
  fn := fun x hx => hx
  room := h.room
  tk := takes0
  gl := h.gl
theorem XOK.vis (h : XOK B tx k N sc fn Wx X) {x : Str} (e : visB sc x = true) : Vis X.env.scope x := by
  rw [h.sc]
  simp only [visB, lkB, Bool.or_eq_true, decide_eq_true_eq] at e
  exact e
theorem XOK.gx (h : XOK B tx k N sc fn Wx X) {x : Str} (e : glB sc x = true) : Gl X x := by
  show List.lookup x X.env.scope.names = _
  rw [h.sc]
  simpa [glB, lkB] using e
theorem isS_eq {x : Str} {s : String} (h : isS x s = true) : x = Str.ofString s := by simpa [isS] using h
theorem dbg_no {x : Str} (h : (!dbg x) = true) : (x == Str.ofString "__debug__") = false := by
  simp only [dbg, isS, Bool.not_eq_true', decide_eq_false_iff_not] at h
  simpa using h
theorem star_ok {e : Expr} (h : noStar e = true) (es : List Expr) (env : PySem.Env) : starEach (e :: es) env = (false, eval e env) :: starEach es env := by
  cases e <;> first | rfl | (simp [noStar] at h)
theorem stars_ok : ∀ {es : List Expr} (h : es.all noStar = true) (pos : Pos) (env : PySem.Env), ((backTo pos (starEach es env)).any fun x => x.fst) = false
  | [], _, _, _ => rfl
  | e :: es, h, pos, env => by
    simp only [List.all_cons, Bool.and_eq_true] at h
    rw [star_ok h.1 es env]
    have := stars_ok h.2 pos env
    simp only [backTo, List.map_cons, List.any_cons] at this ⊢
    rw [this]
    try rfl
/-- the parts of a list of trees -/
def PEs (B : Tab) (Wx : WX) (cf : CallF) (X : Cx) : Ex → List Expr → Prop
  | .nil, [] => True
  | .cons a as, e :: es => noStar e = true ∧ PE X e (RE X.K B Wx cf a) ∧ PEs B Wx cf X as es
  | _, _ => False
theorem PEs.pa : ∀ {as : Ex} {es : List Expr}, PEs B Wx cf X as es → PA X es (RA X.K B Wx cf as)
  | .nil, [], _ => pa_nil.imp fun σ H Q h => ra_nil h
  | .cons a as, e :: es, h => (pa_cons h.2.1 (PEs.pa h.2.2) (star_ok h.1 es X.env)).imp fun σ H Q h => ra_cons h
  | .nil, _ :: _, h => h.elim
  | .cons _ _, [], h => h.elim
  | .var _, _, h => h.elim | .cst _, _, h => h.elim | .bin _ _ _, _, h => h.elim | .neg _, _, h => h.elim | .cmp _ _ _, _, h => h.elim | .chain _ _ _ _ _, _, h => h.elim
  | .and _ _, _, h => h.elim | .or _ _, _, h => h.elim | .not _, _, h => h.elim | .ite _ _ _, _, h => h.elim | .tup _, _, h => h.elim | .lst _, _, h => h.elim | .ix _ _, _, h => h.elim
  | .slc _ _ _, _, h => h.elim | .slcR _, _, h => h.elim | .enumE _, _, h => h.elim | .call _ _, _, h => h.elim | .calv _ _ _, _, h => h.elim | .prim _ _, _, h => h.elim | .meth _ _ _, _, h => h.elim
  | .comp _ _ _ _ _, _, h => h.elim | .comp2 _ _ _ _ _ _, _, h => h.elim | .dcomp _ _ _ _ _ _, _, h => h.elim | .dict _ _, _, h => h.elim
theorem PEs.stars : ∀ {as : Ex} {es : List Expr}, PEs B Wx cf X as es → es.all noStar = true
  | .nil, [], _ => rfl
  | .cons a as, e :: es, h => by
    simp only [List.all_cons, Bool.and_eq_true]
    exact ⟨h.1, PEs.stars h.2.2⟩
  | .nil, _ :: _, h => h.elim
  | .cons _ _, [], h => h.elim
  | .var _, _, h => h.elim | .cst _, _, h => h.elim | .bin _ _ _, _, h => h.elim | .neg _, _, h => h.elim | .cmp _ _ _, _, h => h.elim | .chain _ _ _ _ _, _, h => h.elim
  | .and _ _, _, h => h.elim | .or _ _, _, h => h.elim | .not _, _, h => h.elim | .ite _ _ _, _, h => h.elim | .tup _, _, h => h.elim | .lst _, _, h => h.elim | .ix _ _, _, h => h.elim
  | .slc _ _ _, _, h => h.elim | .slcR _, _, h => h.elim | .enumE _, _, h => h.elim | .call _ _, _, h => h.elim | .calv _ _ _, _, h => h.elim | .prim _ _, _, h => h.elim | .meth _ _ _, _, h => h.elim
  | .comp _ _ _ _ _, _, h => h.elim | .comp2 _ _ _ _ _ _, _, h => h.elim | .dcomp _ _ _ _ _ _, _, h => h.elim | .dict _ _, _, h => h.elim
theorem PEs.one {as : Ex} {e : Expr} (h : PEs B Wx cf X as [e]) : ∃ a, as = .cons a .nil ∧ noStar e = true ∧ PE X e (RE X.K B Wx cf a) := by
  cases as <;> simp only [PEs] at h
  rename_i a as
  refine ⟨a, ?_, h.1, h.2.1⟩
  have h3 := h.2.2
  cases as <;> simp only [PEs] at h3
  try rfl
theorem PEs.two {as : Ex} {e e2 : Expr} (h : PEs B Wx cf X as [e, e2]) : ∃ a b, as = .cons a (.cons b .nil) ∧ noStar e = true ∧ noStar e2 = true ∧ PE X e (RE X.K B Wx cf a) ∧ PE X e2 (RE X.K B Wx cf b) := by
  cases as <;> simp only [PEs] at h
  rename_i a as
  obtain ⟨b, rfl, h1, h2⟩ := PEs.one h.2.2
  exact ⟨a, b, rfl, h.1, h1, h.2.1, h2⟩
/-! built-in functions by name -/
theorem XOK.callB (h : XOK B tx k N sc fn Wx X) {s : String} {x : Str} {p pos : Pos} {e : Expr} {es : List Expr} {t : TA} {r : List V → Hp → VK → Prop} (hc : CallR X (.builtin s) r) (hx : isS x s = true) (hg : glB sc x = true) (hs : s ∈ bltL)
    (hb : bootBuiltins (Str.ofString s) = some (.builtin s)) (hn : Str.ofString s ≠ Str.ofString "__name__") (hd : (!dbg x) = true) (st : (e :: es).all noStar = true) (pa : PA X (e :: es) t) : PE X (.Call (.Name x p) (e :: es) [] pos) (tCB r t) := by
  have gx := h.gx hg
  have dn := dbg_no hd
  obtain rfl := isS_eq hx
  simp only [List.all_cons, Bool.and_eq_true] at st
  exact pe_callB hc gx (h.gl.blt s hs) hb pa hn dn (star_ok st.1 es X.env) (stars_ok st.2 pos X.env)
theorem XOK.callT (h : XOK B tx k N sc fn Wx X) {s : String} {x : Str} {p pos : Pos} {e : Expr} {es : List Expr} {t : TA} {r : List V → Hp → VK → Prop} (hc : CallR X (.type s) r) (hx : isS x s = true) (hg : glB sc x = true) (hs : s ∈ bltL)
    (hb : bootBuiltins (Str.ofString s) = some (.type s)) (hn : Str.ofString s ≠ Str.ofString "__name__") (hd : (!dbg x) = true) (st : (e :: es).all noStar = true) (pa : PA X (e :: es) t) : PE X (.Call (.Name x p) (e :: es) [] pos) (tCB r t) := by
  have gx := h.gx hg
  have dn := dbg_no hd
  obtain rfl := isS_eq hx
  simp only [List.all_cons, Bool.and_eq_true] at st
  exact pe_callTy hc gx (h.gl.blt s hs) hb pa hn dn (star_ok st.1 es X.env) (stars_ok st.2 pos X.env)
def newP : Prim → Bool
  | .list => true
  | .sorted => true
  | .lrange1 => true
  | .lrange2 => true
  | _ => false
theorem newP_lst {p : Prim} (h : newP p = true) (ds : List D) (d : D) (e : primD p ds = some d) : ∃ l, d = .lst l := by
  cases p <;> simp [newP] at h
  · match ds, e with
    | [a], e =>
      simp only [primD, d1] at e
      cases a <;> simp [pList] at e <;> exact ⟨_, e.symm⟩
  · match ds, e with
    | [a], e =>
      simp only [primD, d1] at e
      obtain ⟨ns, _, rfl⟩ := map_inv e
      exact ⟨_, rfl⟩
  · match ds, e with
    | [a], e =>
      simp only [primD, d1] at e
      obtain ⟨i, rfl, e⟩ := i1_inv e
      exact ⟨_, (range12_some e).1⟩
  · match ds, e with
    | [a, b], e =>
      simp only [primD, d2] at e
      obtain ⟨i, j, rfl, rfl, e⟩ := i2_inv e
      exact ⟨_, (range12_some e).1⟩
/-- both readings of a call of a built-in function -/
def PEN (B : Tab) (Wx : WX) (cf : CallF) (X : Cx) (ir : Ex) (new : Bool) (e : Expr) : Prop := PE X e (RE X.K B Wx cf ir) ∧ (new = true → PE X e (RN X.K B Wx cf ir))
theorem prim_name (h : XOK B tx k N sc fn Wx X) {p : Prim} {s : String} (hp : pName p = some s) {as : Ex} {x : Str} {px pos : Pos} {e : Expr} {es : List Expr} (hx : isS x s = true) (hg : glB sc x = true) (hd : (!dbg x) = true) (pe : PEs B Wx cf X as (e :: es)) :
    PEN B Wx cf X (.prim p as) (newP p) (.Call (.Name x px) (e :: es) [] pos) := by
  have st := pe.stars
  have pa := pe.pa
  have hh := h.room.hd
  have hu := h.hu
  have fin : ∀ {r : List V → Hp → VK → Prop}, PrimOK X.K B.fa (primD p) r → newP p = false → PE X (.Call (.Name x px) (e :: es) [] pos) (tCB r (RA X.K B Wx cf as)) → PEN B Wx cf X (.prim p as) (newP p) (.Call (.Name x px) (e :: es) [] pos) := fun ok hn hc => ⟨hc.imp fun σ H Q q => re_prim ok q, fun z => by rw [hn] at z; cases z⟩
  have finN : ∀ {r : List V → Hp → VK → Prop}, PrimNew X.K B.fa (primD p) r → newP p = true → PE X (.Call (.Name x px) (e :: es) [] pos) (tCB r (RA X.K B Wx cf as)) → PEN B Wx cf X (.prim p as) (newP p) (.Call (.Name x px) (e :: es) [] pos) := fun ok hn hc =>
    ⟨hc.imp fun σ H Q q => re_prim (ok.ok fun ds d e => newP_lst hn ds d e) q, fun _ => hc.imp fun σ H Q q => rn_prim ok (fun ds d e => newP_lst hn ds d e) q⟩
  cases p <;> simp only [pName, Option.some.injEq, reduceCtorEq] at hp <;> subst hp
  · exact fin ok_len rfl (h.callB call_lenG hx hg (by simp [bltL]) (by rfl) (by decide) hd st pa)
  · exact fin ok_tuple rfl (h.callT call_tuple_of hx hg (by simp [bltL]) (by rfl) (by decide) hd st pa)
  · exact finN new_list rfl (h.callT call_list_of hx hg (by simp [bltL]) (by rfl) (by decide) hd st pa)
  · exact fin ok_sum rfl (h.callB (cr_sum h.calm) hx hg (by simp [bltL]) (by rfl) (by decide) hd st pa)
  · exact fin ok_any rfl (h.callB (cr_any h.calm) hx hg (by simp [bltL]) (by rfl) (by decide) hd st pa)
  · exact fin ok_all rfl (h.callB (cr_all h.calm) hx hg (by simp [bltL]) (by rfl) (by decide) hd st pa)
  · exact fin ok_min1 rfl (h.callB (callR_or (callR_or (cr_min h.calm) (call_minT hh hu)) (call_minR hh hu)) hx hg (by simp [bltL]) (by rfl) (by decide) hd st pa)
  · exact fin ok_max1 rfl (h.callB (callR_or (cr_max h.calm) (call_maxT hh hu)) hx hg (by simp [bltL]) (by rfl) (by decide) hd st pa)
  · exact fin ok_min2 rfl (h.callB (call_min2 h.calm) hx hg (by simp [bltL]) (by rfl) (by decide) hd st pa)
  · exact fin ok_max2 rfl (h.callB (call_max2 h.calm) hx hg (by simp [bltL]) (by rfl) (by decide) hd st pa)
  · exact finN new_sorted rfl (h.callB cr_sortedI hx hg (by simp [bltL]) (by rfl) (by decide) hd st pa)
  · exact fin ok_abs rfl (h.callB call_abs hx hg (by simp [bltL]) (by rfl) (by decide) hd st pa)
  · exact fin ok_int rfl (h.callT call_int1 hx hg (by simp [bltL]) (by rfl) (by decide) hd st pa)
end
end Py
end
section
set_option Elab.async false
set_option linter.all false
set_option maxRecDepth 100000
namespace Py
open PySem L2
section
variable {B : Tab} {Wx : WX} {cf : CallF} {tx : Tx} {k : Nat} {N : List Str} {sc : Scope} {fn : Str → Bool} {X : Cx}
/-! ### isinstance -/
theorem tyName_bl (t : Ty) : tyName t ∈ bltL := by cases t <;> simp [tyName, bltL]
theorem ty_boot (t : Ty) : bootBuiltins (Str.ofString (tyName t)) = some (.type (tyName t)) := by cases t <;> rfl
theorem ty_name (t : Ty) : Str.ofString (tyName t) ≠ Str.ofString "__name__" := by cases t <;> decide
theorem ty_dbg (t : Ty) : (Str.ofString (tyName t) == Str.ofString "__debug__") = false := by cases t <;> decide
theorem ty_pe (h : XOK B tx k N sc fn Wx X) {t : Ty} {e : Expr} (he : tyB sc t e = true) : PE X e (tC (.ty (tyName t))) := by
  cases e <;> simp only [tyB, Bool.false_eq_true, Bool.and_eq_true] at he
  rename_i x p
  have gx := h.gx he.2
  obtain rfl := isS_eq he.1
  exact pe_bltn gx (h.gl.blt _ (tyName_bl t)) (ty_boot t) rfl (ty_name t) (ty_dbg t)
theorem tys_pa (h : XOK B tx k N sc fn Wx X) : ∀ {ts : List Ty} {es : List Expr}, tysB sc ts es = true → PA X es (fun σ H Q => Q (tyVs ts) H)
  | [], [], _ => pa_nil.imp fun σ H Q q => q
  | [], _ :: _, h => by simp [tysB] at h
  | _ :: _, [], h => by simp [tysB] at h
  | t :: ts, e :: es, he => by
    simp only [tysB, Bool.and_eq_true] at he
    exact (pa_cons (ty_pe h he.1) (tys_pa h he.2.2) (star_ok he.2.1 es X.env)).imp fun σ H Q q => q
theorem isTys_ok {p : Prim} {ts : List Ty} (hp : isTys p = some ts) : primD p = d1 (pIs ts) ∧ newP p = false := by
  cases p <;> simp only [isTys, Option.some.injEq, reduceCtorEq] at hp <;> subst hp <;> exact ⟨rfl, rfl⟩
theorem isa_ok {K : Frg} {ts : List Ty} {ρ : List Addr} {U : Addr → Prop} {st : Store} {H : Hp} {d : D} {v : V} {o : Option D} {Q : VK} {σ : L2.St} (r : RelS K B.fa U ρ st H) (hv : VRel K B.fa ρ (Wu U ρ st) H d v) (e : o = pIs ts (resolve st d)) (q : Post K B U Wx σ ρ st H (opg st o) (CE1 K B U Q)) :
    plain (resolve st d) = true ∧ ∀ H', Grow H H' → Q (.bl (ts.any fun t => hasTy t (resolve st d))) H' := by
  subst e
  obtain ⟨d', e, q⟩ := q.fing (p := fun _ => True) r
  unfold pIs at e
  split at e <;> cases e
  rename_i hp
  exact ⟨hp, fun H' g => q H' _ g rep_bl⟩
theorem prim_isa (h : XOK B tx k N sc fn Wx X) {p : Prim} {ts : List Ty} (hp : isTys p = some ts) {as : Ex} {x : Str} {px pos : Pos} {e t : Expr} (hx : isS x "isinstance" = true) (hg : glB sc x = true) (hd : (!dbg x) = true) (ht : noStar t = true) (ha : isaB sc ts t = true) (pe : PEs B Wx cf X as [e]) :
    PE X (.Call (.Name x px) [e, t] [] pos) (RE X.K B Wx cf (.prim p as)) := by
  obtain ⟨a, rfl, hs, pe⟩ := pe.one
  obtain ⟨hpd, _⟩ := isTys_ok hp
  have st : [e, t].all noStar = true := by simp [hs, ht]
  have rd : ∀ {σ H Q}, RE X.K B Wx cf (.prim p (.cons a .nil)) σ H Q → RE X.K B Wx cf a σ H fun v H1 => ∃ d W, Cont X.K B.fa W H1 d v ∧ plain d = true ∧ ∀ H', Grow H1 H' → Q (.bl (ts.any fun t => hasTy t d)) H' := fun {σ H Q} q => by
    obtain ⟨U, ρ, env, st, r, q⟩ := q
    simp only [evE, evL, hpd] at q
    rw [bind_assoc] at q
    refine RE.first r q fun d ρ1 st1 H1 v r1 x1 hv q => ?_
    obtain ⟨h1, h2⟩ := isa_ok (ts := ts) r1.toRelS hv (by rfl) q
    exact ⟨_, _, r1.toRelS.cont hv, h1, h2⟩
  cases hts : ts with
  | nil => subst hts; cases p <;> simp [isTys] at hp
  | cons t0 tr =>
    cases tr with
    | nil =>
      subst hts
      have pt := ty_pe h (t := t0) (by simpa [isaB] using ha)
      have pa := pa_cons pe (pa_cons pt pa_nil (star_ok ht [] X.env)) (star_ok hs [t] X.env)
      refine (h.callB call_isi hx hg (by simp [bltL]) (by rfl) (by decide) hd st pa).imp fun σ H Q q => ?_
      refine (rd q).elim fun U q => ⟨U, ?_⟩
      obtain ⟨ρ, env, st, r, q⟩ := q
      refine ⟨ρ, env, st, r, q.mono fun d ρ' st' H' _ _ _ q v hv => ?_⟩
      obtain ⟨d', W, hc, hpl, q⟩ := q v hv
      refine ⟨v, .ty (tyName t0), _, _, _, rfl, .ty _, ty_of hc hpl, kit_ty (kit_has d' t0 hpl), ?_⟩
      simpa using q H' Grow.refl
    | cons t1 tr =>
      subst hts
      cases t <;> simp only [isaB, Bool.false_eq_true, Bool.and_eq_true] at ha
      rename_i es k0 tp
      have pt := pe_tup (pos := tp) (x1 := k0) (tys_pa h ha.1)
      have pa := pa_cons pe (pa_cons pt pa_nil (star_ok ht [] X.env)) (star_ok hs _ X.env)
      refine (h.callB call_isiT hx hg (by simp [bltL]) (by rfl) (by decide) hd st pa).imp fun σ H Q q => ?_
      refine (rd q).elim fun U q => ⟨U, ?_⟩
      obtain ⟨ρ, env, st, r, q⟩ := q
      refine ⟨ρ, env, st, r, q.mono fun d ρ' st' H' _ _ _ q v hv => ?_⟩
      obtain ⟨d', W, hc, hpl, q⟩ := q v hv
      refine ⟨?_, fun tp htp => ?_⟩
      · cases p <;> simp [isTys] at hp <;> (obtain ⟨rfl, rfl, rfl⟩ := hp; simp [tyVs]; rw [sizeLine_eq]; decide)
      · have g : Grow H' (upd H' tp (.tup (tyVs (t0 :: t1 :: tr)))) := Grow.upd htp
        have hc' : TyX X.K (upd H' tp (.tup (tyVs (t0 :: t1 :: tr)))) v (.type (tyOfD d')) := by
          have h0 := ty_of hc hpl
          cases d' with
          | lst l => obtain ⟨a, vs, rfl, t, _⟩ := clst hc; exact .base (.lst (g _ _ t))
          | dct k l => obtain ⟨a, vs, rfl, t, _⟩ := cdct hc; exact .base (.dK (g _ _ t))
          | tup l => exact ty_of (show Cont X.K B.fa W _ (.tup l) v from g.step.rep _ _ hc) hpl
          | fn j => simp [plain] at hpl
          | loc j => simp [plain] at hpl
          | ro j => simp [plain] at hpl
          | none => exact ty_of (show Cont X.K B.fa W _ .none v from g.step.rep _ _ hc) hpl
          | bl b => exact ty_of (show Cont X.K B.fa W _ (.bl b) v from g.step.rep _ _ hc) hpl
          | int b => exact ty_of (show Cont X.K B.fa W _ (.int b) v from g.step.rep _ _ hc) hpl
          | str b => exact ty_of (show Cont X.K B.fa W _ (.str b) v from g.step.rep _ _ hc) hpl
        exact ⟨v, tp, _, _, _, _, rfl, upd_same, cls_all _, hc', kit_any hpl _, q _ g⟩
/-! ### lists and tuples of a range -/
theorem rgV_rng {a b : Int} : rgV a b = (List.range (b - a).toNat).map fun (i : Nat) => V.int (a + i) := rfl
theorem rng_map : ∀ (n : Nat) (a : Int), rng a n = (List.range n).map fun (i : Nat) => D.int (a + i)
  | 0, _ => rfl
  | n + 1, a => by
    rw [rng, rng_map n (a + 1), List.range_succ_eq_map, List.map_cons, List.map_map]
    congr 1
    · simp
    · apply List.map_congr_left
      intro i _
      simp only [Function.comp]
      congr 1
      omega
theorem reps_rng {K : Frg} {fa : Nat → Addr} {W : Addr → Prop} {H : Hp} {a b : Int} : Reps K fa W H (rng a (b - a).toNat) (rgV a b) := by
  rw [rng_map, rgV_rng]
  induction List.range (b - a).toNat with
  | nil => simp [Reps]
  | cons n r ih => simp only [List.map_cons, Reps]; exact ⟨_, _, rfl, by simp [Rep], ih⟩
theorem rg_ok {a b : Int} {d : D} (h : range12 a b = some d) : d = .lst (rng a (b - a).toNat) ∧ RgOk a b := by
  obtain ⟨rfl, h1, h2, h3⟩ := range12_some h
  refine ⟨rfl, h1.1, h1.2, h2.1, h2.2, ?_⟩
  have : sizeMax = 2 ^ 24 := by decide
  omega
section
variable {K : Frg} {U : Addr → Prop} {σ : L2.St} {H : Hp} {ρ : List Addr} {env : Env} {st : Store}
theorem re_lr1 {a : Ex} {Q : VK} (h : RE K B Wx cf (.prim .lrange1 (.cons a .nil)) σ H Q) : tLstRg (tRg1 (RE K B Wx cf a)) σ H Q := by
  obtain ⟨U, ρ, env, st, r, q⟩ := h
  simp only [evE, evL] at q
  rw [bind_assoc] at q
  refine RE.first r q fun d ρ1 st1 H1 v r1 x1 hv q => ?_
  obtain ⟨d', e, q⟩ := Post.fing (p := fun _ => True) r1.toRelS q
  obtain ⟨i, hi, e⟩ := i1_inv (show i1 (fun n => range12 0 n) (resolve st1 d) = some d' from e)
  have c := r1.toRelS.cont hv
  rw [hi] at c
  obtain ⟨rfl, ok⟩ := rg_ok e
  exact ⟨i, cint c, ok, fun p hp => q _ _ (Grow.upd hp) (rep_lst_new (fun a w => r1.toRelS.wrThere w) hp reps_rng)⟩
theorem rn_lr1 {a : Ex} {Q : VK} (h : RN K B Wx cf (.prim .lrange1 (.cons a .nil)) σ H Q) : tLstRg (tRg1 (RE K B Wx cf a)) σ H Q := by
  obtain ⟨U, ρ, env, st, r, q⟩ := h
  simp only [evE, evL] at q
  rw [bind_assoc, bind_assoc] at q
  refine RE.first r q fun d ρ1 st1 H1 v r1 x1 hv q => ?_
  cases e : i1 (fun n => range12 0 n) (resolve st1 d) with
  | none => have e' : primD .lrange1 ([d].map (resolve st1)) = none := e
            change Post K B U Wx σ ρ1 st1 H1 ((opg st1 (primD .lrange1 ([d].map (resolve st1)))).bind newD) _ at q
            unfold opg at q; rw [e'] at q; exact (show False from q).elim
  | some d' =>
    have e' : primD .lrange1 ([d].map (resolve st1)) = some d' := e
    change Post K B U Wx σ ρ1 st1 H1 ((opg st1 (primD .lrange1 ([d].map (resolve st1)))).bind newD) _ at q
    unfold opg at q
    rw [e'] at q
    obtain ⟨i, hi, e⟩ := i1_inv e
    have c := r1.toRelS.cont hv
    rw [hi] at c
    obtain ⟨rfl, ok⟩ := rg_ok e
    exact ⟨i, cint c, ok, fun p hp => CN.use r1 hp reps_rng q⟩
theorem re_tr1 {a : Ex} {Q : VK} (h : RE K B Wx cf (.prim .trange1 (.cons a .nil)) σ H Q) : tTupRg (tRg1 (RE K B Wx cf a)) σ H Q := by
  obtain ⟨U, ρ, env, st, r, q⟩ := h
  simp only [evE, evL] at q
  rw [bind_assoc] at q
  refine RE.first r q fun d ρ1 st1 H1 v r1 x1 hv q => ?_
  obtain ⟨d', e, q⟩ := Post.fing (p := fun _ => True) r1.toRelS q
  obtain ⟨i, hi, e⟩ := i1_inv (show i1 (fun n => toTup (range12 0 n)) (resolve st1 d) = some d' from e)
  have c := r1.toRelS.cont hv
  rw [hi] at c
  cases e2 : range12 0 i with
  | none => rw [e2] at e; cases e
  | some z =>
    rw [e2] at e
    obtain ⟨rfl, ok⟩ := rg_ok e2
    cases e
    exact ⟨i, cint c, ok, fun p hp => q _ _ (Grow.upd hp) (rep_tup_new (fun a w => r1.toRelS.wrThere w) hp reps_rng)⟩
theorem re_lr2 {a b : Ex} {Q : VK} (h : RE K B Wx cf (.prim .lrange2 (.cons a (.cons b .nil))) σ H Q) : tLstRg (tRg2 (RE K B Wx cf a) (RE K B Wx cf b)) σ H Q := by
  obtain ⟨U, ρ, env, st, r, q⟩ := h
  simp only [evE, evL] at q
  rw [bind_assoc] at q
  refine RE.first r q fun d ρ1 st1 H1 v r1 x1 hv q => ?_
  rw [bind_assoc, bind_assoc] at q
  refine RE.first r1 q fun d2 ρ2 st2 H2 v2 r2 x2 hv2 q => ?_
  obtain ⟨d', e, q⟩ := Post.fing (p := fun _ => True) r2.toRelS q
  obtain ⟨i, j, hi, hj, e⟩ := i2_inv (show i2 range12 (resolve st2 d) (resolve st2 d2) = some d' from e)
  have c := r2.toRelS.cont (x2.vrel hv)
  have c2 := r2.toRelS.cont hv2
  rw [hi] at c
  rw [hj] at c2
  obtain ⟨rfl, ok⟩ := rg_ok e
  exact ⟨i, j, cint c, cint c2, ok, fun p hp => q _ _ (Grow.upd hp) (rep_lst_new (fun a w => r2.toRelS.wrThere w) hp reps_rng)⟩
theorem rn_lr2 {a b : Ex} {Q : VK} (h : RN K B Wx cf (.prim .lrange2 (.cons a (.cons b .nil))) σ H Q) : tLstRg (tRg2 (RE K B Wx cf a) (RE K B Wx cf b)) σ H Q := by
  obtain ⟨U, ρ, env, st, r, q⟩ := h
  simp only [evE, evL] at q
  rw [bind_assoc, bind_assoc] at q
  refine RE.first r q fun d ρ1 st1 H1 v r1 x1 hv q => ?_
  rw [bind_assoc, bind_assoc] at q
  refine RE.first r1 q fun d2 ρ2 st2 H2 v2 r2 x2 hv2 q => ?_
  change Post K B U Wx σ ρ2 st2 H2 ((opg st2 (primD .lrange2 ([d, d2].map (resolve st2)))).bind newD) _ at q
  cases e : i2 range12 (resolve st2 d) (resolve st2 d2) with
  | none => have e' : primD .lrange2 ([d, d2].map (resolve st2)) = none := e
            unfold opg at q; rw [e'] at q; exact (show False from q).elim
  | some d' =>
    have e' : primD .lrange2 ([d, d2].map (resolve st2)) = some d' := e
    unfold opg at q
    rw [e'] at q
    obtain ⟨i, j, hi, hj, e⟩ := i2_inv e
    have c := r2.toRelS.cont (x2.vrel hv)
    have c2 := r2.toRelS.cont hv2
    rw [hi] at c
    rw [hj] at c2
    obtain ⟨rfl, ok⟩ := rg_ok e
    exact ⟨i, j, cint c, cint c2, ok, fun p hp => CN.use r2 hp reps_rng q⟩
theorem re_tr2 {a b : Ex} {Q : VK} (h : RE K B Wx cf (.prim .trange2 (.cons a (.cons b .nil))) σ H Q) : tTupRg (tRg2 (RE K B Wx cf a) (RE K B Wx cf b)) σ H Q := by
  obtain ⟨U, ρ, env, st, r, q⟩ := h
  simp only [evE, evL] at q
  rw [bind_assoc] at q
  refine RE.first r q fun d ρ1 st1 H1 v r1 x1 hv q => ?_
  rw [bind_assoc, bind_assoc] at q
  refine RE.first r1 q fun d2 ρ2 st2 H2 v2 r2 x2 hv2 q => ?_
  obtain ⟨d', e, q⟩ := Post.fing (p := fun _ => True) r2.toRelS q
  obtain ⟨i, j, hi, hj, e⟩ := i2_inv (show i2 (fun a b => toTup (range12 a b)) (resolve st2 d) (resolve st2 d2) = some d' from e)
  have c := r2.toRelS.cont (x2.vrel hv)
  have c2 := r2.toRelS.cont hv2
  rw [hi] at c
  rw [hj] at c2
  cases e2 : range12 i j with
  | none => rw [e2] at e; cases e
  | some z =>
    rw [e2] at e
    obtain ⟨rfl, ok⟩ := rg_ok e2
    cases e
    exact ⟨i, j, cint c, cint c2, ok, fun p hp => q _ _ (Grow.upd hp) (rep_tup_new (fun a w => r2.toRelS.wrThere w) hp reps_rng)⟩
theorem re_bits {o : Ex} {Q : VK} (h : RE K B Wx cf (.meth .bitlen o .nil) σ H Q) : tBits (RE K B Wx cf o) σ H Q := by
  obtain ⟨U, ρ, env, st, r, q⟩ := h
  simp only [evE, evL] at q
  refine RE.first r q fun d ρ1 st1 H1 v r1 x1 hv q => ?_
  split at q
  case isFalse => exact (show False from q).elim
  obtain ⟨d', e, q⟩ := Post.fing (p := fun _ => True) r1.toRelS q
  have e : pBits (resolve st1 d) = some d' := e
  have c := r1.toRelS.cont hv
  cases k : resolve st1 d with
  | int i =>
    rw [k] at e c
    cases i with
    | ofNat n =>
      simp only [pBits, Option.some.injEq] at e
      subst e
      refine ⟨.ofNat n, cint c, ?_⟩
      rw [int_bits]
      have := q H1 _ Grow.refl rep_int
      by_cases hn : n = 0
      · rw [if_pos hn] at this ⊢; exact this
      · rw [if_neg hn] at this ⊢; simpa using this
    | negSucc n => cases e
  | _ => rw [k] at e; cases e
theorem re_index {o as : Ex} {Q : VK} (h : RE K B Wx cf (.meth .index o as) σ H Q) : tBM K "list" (rIndexD K) (RE K B Wx cf o) (RA K B Wx cf as) σ H Q := by
  obtain ⟨U, ρ, env, st, r, q⟩ := h
  simp only [evE] at q
  refine RE.first r q fun d ρ1 st1 H1 v r1 x1 hv q => ?_
  split at q
  case isFalse => exact (show False from q).elim
  rename_i hr
  have c := r1.toRelS.cont hv
  cases kd : resolve st1 d <;> rw [kd] at hr c <;> simp only [recvOk, Bool.false_eq_true] at hr
  rename_i l
  refine ⟨?_, RA.first r1 q fun ds ρ2 st2 H2 vs r2 x2 hvs q => ?_⟩
  · obtain ⟨a, vs, rfl, t, _⟩ := clst c
    exact .inl ⟨rfl, vs, .of t⟩
  · obtain ⟨d', e, q⟩ := Post.fing (p := fun _ => True) r2.toRelS q
    obtain ⟨a, b, v1, v2, ev, c1, c2, e⟩ := d2_inv (vs := v :: vs) (show Conts K B.fa (Wu U ρ2 st2) H2 (resolve st2 d :: ds.map (resolve st2)) (v :: vs) from ⟨v, vs, rfl, r2.toRelS.cont (x2.vrel hv), conts_of r2.toRelS hvs⟩) e
    cases ev
    cases a <;> simp only [pIndex, reduceCtorEq] at e
    exact index_ok c1 c2 e fun v hv => q _ _ Grow.refl hv
end
end
end Py
end
section
set_option Elab.async false
set_option linter.all false
set_option maxRecDepth 100000
namespace Py
open PySem L2
section
variable {B : Tab} {tx : Tx} {k : Nat} {N : List Str}
theorem tg_kind {N : List Str} {sc : Scope} {fn : Str → Bool} {t : Ex} {e : Expr} (h : agTg N sc fn t e = true) : (∃ i, t = .var i) ∨ ∃ us, t = .tup us := by
  cases t <;> first
    | exact .inl ⟨_, rfl⟩
    | exact .inr ⟨_, rfl⟩
    | (cases e <;> simp [agTg] at h)
theorem assign_len : ∀ (es : List Expr) (env : PySem.Env), (assignEach es env).length = es.length
  | [], _ => rfl
  | e :: es, env => by
    have : assignEach (e :: es) env = (match e with | .Starred _ _ => true | _ => false, (assignEach (e :: es) env).head!.2) :: assignEach es env := by
      cases e <;> rfl
    rw [this]
    simp [assign_len es env]
theorem assign_find : ∀ {es : List Expr} (h : es.all noStar = true) (env : PySem.Env), List.findIdx? (fun x => x.fst) (assignEach es env) = none
  | [], _, _ => rfl
  | e :: es, h, env => by
    simp only [List.all_cons, Bool.and_eq_true] at h
    have ih := assign_find h.2 env
    have : assignEach (e :: es) env = (false, assign e env) :: assignEach es env := by
      have h1 := h.1
      cases e <;> first | rfl | (simp [noStar] at h1)
    rw [this, List.findIdx?_cons, ih]
    try rfl
theorem assign_cons {e : Expr} (h : noStar e = true) (es : List Expr) (env : PySem.Env) : List.map (fun x => x.snd) (assignEach (e :: es) env) = assign e env :: List.map (fun x => x.snd) (assignEach es env) := by
  cases e <;> first | rfl | (simp [noStar] at h)
theorem stars_tg {N : List Str} {sc : Scope} {fn : Str → Bool} : ∀ (ts : Ex) (es : List Expr), agTgs N sc fn ts es = true → es.all noStar = true := by
  intro ts es
  induction es generalizing ts with
  | nil => intro _; rfl
  | cons e es ih =>
    intro a
    cases ts <;> simp only [agTgs, Bool.false_eq_true, Bool.and_eq_true] at a
    simp only [List.all_cons, Bool.and_eq_true]
    exact ⟨a.2.1, ih _ a.2.2⟩
mutual
theorem sndG {sc : Scope} {fn : Str → Bool} {Wx : WX} {X : Cx} (h : XOK B tx k N sc fn Wx X) : ∀ (t : Ex) (e : Expr), agTg N sc fn t e = true → PG X e (RG X.K B t)
  | .var i, e, a => by
    cases e <;> simp only [agTg, Bool.false_eq_true, Bool.and_eq_true, Bool.or_eq_true, decide_eq_true_eq, lkB] at a
    rename_i x p
    obtain ⟨a1, a2⟩ := a
    have hi : X.N[i]? = some x := by rw [h.hN]; exact a1
    have hn : i < X.N.length := (List.getElem?_eq_some_iff.mp hi).1
    refine (pg_name (i := i) (by rw [h.hN]; exact h.nd) hi ?_ ?_).impI fun v σ H Q hl q => rg_name hn hl q
    · rw [h.sc]
      rcases a2 with a2 | a2
      · exact .inr a2.1
      · exact .inl a2
    · rw [h.sc]
      rcases a2 with a2 | a2
      · exact .inl (h.fn x a2.2)
      · exact .inr a2
  | .tup ts, e, a => by
    cases e <;> simp only [agTg, Bool.false_eq_true] at a
    rename_i es kk p
    have pg := sndGs h ts es a
    have st : es.all noStar = true := stars_tg ts es a
    exact (pg_tup h.calm pg (assign_len es X.env) (assign_find st X.env)).impI fun v σ H Q hl q => rg_tup (fun ds env env' e => setTg_len e a) q
  | .nil, e, a => by cases e <;> simp [agTg] at a
  | .cons _ _, e, a => by cases e <;> simp [agTg] at a
  | .cst _, e, a => by cases e <;> simp [agTg] at a
  | .bin _ _ _, e, a => by cases e <;> simp [agTg] at a
  | .neg _, e, a => by cases e <;> simp [agTg] at a
  | .cmp _ _ _, e, a => by cases e <;> simp [agTg] at a
  | .chain _ _ _ _ _, e, a => by cases e <;> simp [agTg] at a
  | .and _ _, e, a => by cases e <;> simp [agTg] at a
  | .or _ _, e, a => by cases e <;> simp [agTg] at a
  | .not _, e, a => by cases e <;> simp [agTg] at a
  | .ite _ _ _, e, a => by cases e <;> simp [agTg] at a
  | .lst _, e, a => by cases e <;> simp [agTg] at a
  | .ix _ _, e, a => by cases e <;> simp [agTg] at a
  | .slc _ _ _, e, a => by cases e <;> simp [agTg] at a
  | .slcR _, e, a => by cases e <;> simp [agTg] at a
  | .enumE _, e, a => by cases e <;> simp [agTg] at a
  | .call _ _, e, a => by cases e <;> simp [agTg] at a
  | .calv _ _ _, e, a => by cases e <;> simp [agTg] at a
  | .prim _ _, e, a => by cases e <;> simp [agTg] at a
  | .meth _ _ _, e, a => by cases e <;> simp [agTg] at a
  | .comp _ _ _ _ _, e, a => by cases e <;> simp [agTg] at a
  | .comp2 _ _ _ _ _ _, e, a => by cases e <;> simp [agTg] at a
  | .dcomp _ _ _ _ _ _, e, a => by cases e <;> simp [agTg] at a
  | .dict _ _, e, a => by cases e <;> simp [agTg] at a
theorem sndGs {sc : Scope} {fn : Str → Bool} {Wx : WX} {X : Cx} (h : XOK B tx k N sc fn Wx X) : ∀ (t : Ex) (e : List Expr), agTgs N sc fn t e = true → PGs X e (RGs X.K B t)
  | .nil, [], a => pgs_nil.impI fun v σ H Q _ q => rgs_nil q
  | .nil, _ :: _, a => by simp [agTgs] at a
  | .cons t ts, [], a => by simp [agTgs] at a
  | .cons t ts, e :: es, a => by
    simp only [agTgs, Bool.and_eq_true] at a
    exact (pgs_cons (sndG h t e a.1) (sndGs h ts es a.2.2) (assign_cons a.2.1 es X.env)).impI fun v σ H Q _ q => rgs_cons (tg_kind a.1) q
  | .var _, e, a => by cases e <;> simp [agTgs] at a
  | .tup _, e, a => by cases e <;> simp [agTgs] at a
  | .cst _, e, a => by cases e <;> simp [agTgs] at a
  | .bin _ _ _, e, a => by cases e <;> simp [agTgs] at a
  | .neg _, e, a => by cases e <;> simp [agTgs] at a
  | .cmp _ _ _, e, a => by cases e <;> simp [agTgs] at a
  | .chain _ _ _ _ _, e, a => by cases e <;> simp [agTgs] at a
  | .and _ _, e, a => by cases e <;> simp [agTgs] at a
  | .or _ _, e, a => by cases e <;> simp [agTgs] at a
  | .not _, e, a => by cases e <;> simp [agTgs] at a
  | .ite _ _ _, e, a => by cases e <;> simp [agTgs] at a
  | .lst _, e, a => by cases e <;> simp [agTgs] at a
  | .ix _ _, e, a => by cases e <;> simp [agTgs] at a
  | .slc _ _ _, e, a => by cases e <;> simp [agTgs] at a
  | .slcR _, e, a => by cases e <;> simp [agTgs] at a
  | .enumE _, e, a => by cases e <;> simp [agTgs] at a
  | .call _ _, e, a => by cases e <;> simp [agTgs] at a
  | .calv _ _ _, e, a => by cases e <;> simp [agTgs] at a
  | .prim _ _, e, a => by cases e <;> simp [agTgs] at a
  | .meth _ _ _, e, a => by cases e <;> simp [agTgs] at a
  | .comp _ _ _ _ _, e, a => by cases e <;> simp [agTgs] at a
  | .comp2 _ _ _ _ _ _, e, a => by cases e <;> simp [agTgs] at a
  | .dcomp _ _ _ _ _ _, e, a => by cases e <;> simp [agTgs] at a
  | .dict _ _, e, a => by cases e <;> simp [agTgs] at a
end
end
end Py
end
section
set_option Elab.async false
set_option linter.all false
set_option maxRecDepth 100000
set_option maxHeartbeats 4000000
namespace Py
open PySem L2
section
variable {B : Tab} {tx : Tx} {k : Nat} {N : List Str}
def newE : Ex → Bool
  | .lst _ => true
  | .comp _ _ _ _ _ => true
  | .prim p _ => newP p
  | .dict .nil .nil => true
  | .bin .add _ _ => true
  | .bin .mul _ _ => true
  | _ => false
/-- what the check of a term promises -/
def Res (B : Tab) (Wx : WX) (cf : CallF) (X : Cx) (ir : Ex) (sr : Bool) (e : Expr) : Prop :=
  match sr with
  | false => PEN B Wx cf X ir (newE ir) e
  | true => ∀ tg, (!enI ir || isTupE tg) = true → PI X tg e (RI X.K B Wx cf ir)
theorem Res.of {Wx : WX} {cf : CallF} {X : Cx} {ir : Ex} {sr : Bool} {e : Expr} (h : PEN B Wx cf X ir (newE ir) e) : Res B Wx cf X ir sr e := by
  cases sr with
  | false => exact h
  | true => exact fun tg _ => pi_seq h.1
theorem Res.re {Wx : WX} {cf : CallF} {X : Cx} {ir : Ex} {sr : Bool} {e : Expr} (hn : newE ir = false) (h : PE X e (RE X.K B Wx cf ir)) : Res B Wx cf X ir sr e :=
  Res.of ⟨h, fun z => by rw [hn] at z; cases z⟩
theorem boOp_eq {op : BOp} {o : Operator} (h : boOp op o = true) : o = op.to := by cases op <;> cases o <;> simp [boOp] at h <;> rfl
theorem coOp_eq {op : COp} {o : CmpOp} (h : coOp op o = true) : o = op.to := by cases op <;> cases o <;> simp [coOp] at h <;> rfl
theorem plainIx_ok {e : Expr} (h : plainB e = true) : PlainIx e := by
  intro o i
  cases e <;> first | rfl | (simp [plainB] at h)
theorem base_ok {e : Expr} (h : noCallB e = true) (s : Str) (env : PySem.Env) : attributeBase e s env (eval e env) = eval e env := by
  cases e <;> first | rfl | (simp [noCallB] at h)
theorem set_ok {e : Expr} (h : noSetB e = true) (env : PySem.Env) (x : Value) : foldedSetIterable e env x = pure x := by
  cases e <;> first | rfl | (simp [noSetB] at h)
theorem test_ok {e : Expr} (h : testB e = true) (env : PySem.Env) (w : Sem Value) : PySem.isTrue e env w = (do let v ← w; standAt e.pos; holding [v] (truthy v)) := by
  cases e <;> first | rfl | (simp [testB] at h)
theorem cst_pe {X : Cx} {Wx : WX} {cf : CallF} {c : Const} {d : D} {j : Nat} {p : Pos} (h : cstB c d = true) : PE X (.Constant c j p) (RE X.K B Wx cf (.cst d)) := by
  cases d <;> simp only [cstB, Bool.false_eq_true] at h
  · cases c <;> simp at h
    exact pe_non.imp fun σ H Q q => re_cst (fun _ _ => rep_non) q
  · rename_i b
    cases c <;> simp at h
    subst h
    exact pe_bl.imp fun σ H Q q => re_cst (fun _ _ => rep_bl) q
  · rename_i i
    cases c <;> simp only [Bool.false_eq_true] at h
    rw [ieq_iff, decide_eq_true_eq] at h
    subst h
    exact pe_int.imp fun σ H Q q => re_cst (fun _ _ => rep_int) q
  · rename_i s
    cases c <;> simp only [Bool.false_eq_true, decide_eq_true_eq] at h
    subst h
    exact pe_str.imp fun σ H Q q => re_cst (fun _ _ => rep_str) q
theorem own_snd {N : List Str} {own : List Nat} : (ownOf N own).map (fun x => x.2) = own := by
  unfold ownOf
  rw [List.map_map]
  show own.map (fun i => i) = own
  exact List.map_id' own
/-- the built-in functions' calls -/
theorem prim_ok {sc : Scope} {fn : Str → Bool} {Wx : WX} {X : Cx} (h : XOK B tx k N sc fn Wx X) {cf : CallF} {p : Prim} {as : Ex} {sr : Bool} {f : Expr} {es : List Expr} {pos : Pos} {LB : List Expr → Bool} (hL : ∀ es, LB es = true → PEs B Wx cf X as es)
    (a : primB tx.cm tx.fm sc sr p LB f es pos = true) : Res B Wx cf X (.prim p as) sr (.Call f es [] pos) := by
  cases f <;> simp only [primB, Bool.false_eq_true, Bool.and_eq_true] at a
  rename_i x px
  obtain ⟨hg, hd, a⟩ := a
  unfold primNB at a
  cases hp : pName p with
  | some s =>
    rw [hp] at a
    simp only [Bool.and_eq_true, decide_eq_true_eq] at a
    cases es with
    | nil => exact absurd rfl a.2.1
    | cons e es => exact Res.of (prim_name h hp a.1 hg hd (hL _ a.2.2))
  | none =>
    rw [hp] at a
    cases ht : isTys p with
    | some ts =>
      rw [ht] at a
      simp only [Bool.and_eq_true] at a
      obtain ⟨hx, a⟩ := a
      match es, a with
      | [e, t], a =>
        simp only [Bool.and_eq_true] at a
        exact Res.re (isTys_ok ht).2 (prim_isa h ht hx hg hd a.1 a.2.1 (hL _ a.2.2))
    | none =>
      rw [ht] at a
      have rg : ∀ {n : Nat} {es : List Expr}, rangeB sc n LB es = true → ∃ y py es' rp, es = [.Call (.Name y py) es' [] rp] ∧ isS y "range" = true ∧ glB sc y = true ∧ es'.length = n ∧ LB es' = true := fun {n es} b => by
        unfold rangeB at b
        split at b
        case h_2 => cases b
        rename_i y py es' rp
        simp only [Bool.and_eq_true, decide_eq_true_eq] at b
        exact ⟨y, py, es', rp, rfl, b.1, b.2.1, b.2.2.2.1, b.2.2.2.2⟩
      cases p <;> simp only [pName, isTys, reduceCtorEq] at hp ht <;> simp only [Bool.false_eq_true, Bool.and_eq_true, decide_eq_true_eq] at a
      · -- sorted(set(xs))
        obtain ⟨hx, a⟩ := a
        unfold setArgB at a
        split at a
        case h_2 => cases a
        rename_i y py es' rp
        simp only [Bool.and_eq_true, decide_eq_true_eq] at a
        obtain ⟨hy, gy, dy, hl, a⟩ := a
        match es', hl with
        | [e], _ =>
          have pe := hL _ a
          have st := pe.stars
          have p1 := h.callT (p := py) (pos := rp) (call_setOfI h.calm) hy gy (by simp [bltL]) (by rfl) (by decide) dy st pe.pa
          have p2 := h.callB (p := px) (pos := pos) (cr_sortedSet h.calm) hx hg (by simp [bltL]) (by rfl) (by decide) hd (by rfl) (pa_cons p1 pa_nil (by rfl))
          refine Res.re rfl (p2.imp fun σ H Q q => ?_)
          have z := re_prim (p := .sortedSet) (rr := fun xs H Q => rSetOfI X.K X.w xs H fun v H1 => rSortedSet X.w [v] H1 Q) ok_sset q
          exact z
      · -- range 1
        obtain ⟨hs, hx, hl, a⟩ := a
        subst hs
        match es, hl with
        | [e], _ =>
          have pe := hL _ a
          have gx := h.gx hg
          obtain rfl := isS_eq hx
          obtain ⟨a1, rfl, hs, p1⟩ := pe.one
          exact fun tg _ => (pi_range1 gx (h.gl.blt _ (by simp [bltL])) pe.pa (by rw [star_ok hs]; rfl)).imp fun σ H R q => ri_range1 q
      · obtain ⟨hs, hx, hl, a⟩ := a
        subst hs
        match es, hl with
        | [e, e2], _ =>
          have pe := hL _ a
          have gx := h.gx hg
          obtain rfl := isS_eq hx
          obtain ⟨a1, a2, rfl, hs, hs2, p1, p2⟩ := pe.two
          exact fun tg _ => (pi_range2 gx (h.gl.blt _ (by simp [bltL])) pe.pa (by rw [star_ok hs, star_ok hs2]; rfl) (by rw [star_ok hs2]; rfl)).imp fun σ H R q => ri_range2 q
      · -- factorial
        obtain ⟨hc, hx, hl, a⟩ := a
        match es, hl with
        | [e], _ =>
          have pe := hL _ a
          have gx := h.gx hg
          obtain rfl := isS_eq hx
          obtain ⟨a1, rfl, hs, p1⟩ := pe.one
          refine Res.re rfl ((pe_callBfun call_factD gx (h.gl.fact hc) pe.pa (dbg_no hd) (star_ok hs _ X.env) (stars_ok (es := []) rfl pos X.env)).imp fun σ H Q q => re_prim (rr := rFactD) ?_ q)
          intro W H ds vs d Q hw hc e q
          obtain ⟨a, v, rfl, c1, e⟩ := d1_inv hc e
          cases a <;> simp only [pFact, reduceCtorEq] at e
          rename_i i
          cases i <;> simp only [pFact, reduceCtorEq] at e
          split at e <;> cases e
          rename_i n hn
          exact ⟨n, by simpa using hn, by rw [cint c1], q _ _ Grow.refl rep_int⟩
      · -- comb
        obtain ⟨hc, hx, hl, a⟩ := a
        match es, hl with
        | [e, e2], _ =>
          have pe := hL _ a
          have gx := h.gx hg
          obtain rfl := isS_eq hx
          obtain ⟨a1, a2, rfl, hs, hs2, p1, p2⟩ := pe.two
          refine Res.re rfl ((pe_callBfun call_combD gx (h.gl.comb hc) pe.pa (dbg_no hd) (star_ok hs _ X.env) (stars_ok (es := [e2]) (by simp [hs2]) pos X.env)).imp fun σ H Q q => re_prim (rr := rCombD) ?_ q)
          intro W H ds vs d Q hw hc e q
          obtain ⟨a, b, v, w, rfl, c1, c2, e⟩ := d2_inv hc e
          cases a <;> cases b <;> simp only [pComb, reduceCtorEq] at e
          rename_i i j
          cases i <;> cases j <;> simp only [pComb, reduceCtorEq] at e
          split at e <;> cases e
          rename_i n m hn
          exact ⟨n, m, by simpa using hn, by rw [cint c1, cint c2], q _ _ Grow.refl rep_int⟩
      · -- enumerate
        obtain ⟨hs, hx, hl, a⟩ := a
        subst hs
        match es, hl with
        | [e], _ =>
          have pe := hL _ a
          have gx := h.gx hg
          obtain rfl := isS_eq hx
          obtain ⟨a1, rfl, hs, p1⟩ := pe.one
          intro tg ht
          cases tg <;> simp [enI, isTupE] at ht
          exact (pi_or (pi_enum gx (h.gl.blt _ (by simp [bltL])) pe.pa (by rw [star_ok hs]; rfl)) (pi_enumT gx (h.gl.blt _ (by simp [bltL])) pe.pa (by rw [star_ok hs]; rfl))).imp fun σ H R q => ri_enum q
      · obtain ⟨hx, a⟩ := a
        obtain ⟨y, py, es', rp, rfl, hy, gy, hl, a⟩ := rg a
        match es', hl with
        | [e], _ =>
          have pe := hL _ a
          have gx := h.gx hg
          have gy := h.gx gy
          obtain rfl := isS_eq hx
          obtain rfl := isS_eq hy
          obtain ⟨a1, rfl, hs, p1⟩ := pe.one
          have pr := pe_listRg (p := px) (pos := pos) h.calm gx (h.gl.blt _ (by simp [bltL])) (prg_1 (p := py) (pos := rp) gy (h.gl.blt _ (by simp [bltL])) p1 (star_ok hs _ X.env)) (by rfl)
          exact Res.of ⟨pr.imp fun σ H Q q => re_lr1 q, fun _ => pr.imp fun σ H Q q => rn_lr1 q⟩
      · obtain ⟨hx, a⟩ := a
        obtain ⟨y, py, es', rp, rfl, hy, gy, hl, a⟩ := rg a
        match es', hl with
        | [e, e2], _ =>
          have pe := hL _ a
          have gx := h.gx hg
          have gy := h.gx gy
          obtain rfl := isS_eq hx
          obtain rfl := isS_eq hy
          obtain ⟨a1, a2, rfl, hs, hs2, p1, p2⟩ := pe.two
          have pr := pe_listRg (p := px) (pos := pos) h.calm gx (h.gl.blt _ (by simp [bltL])) (prg_2 (p := py) (pos := rp) gy (h.gl.blt _ (by simp [bltL])) p1 p2 (star_ok hs _ X.env) (star_ok hs2 _ X.env) (stars_ok (es := [e2]) (by simp [hs2]) rp X.env)) (by rfl)
          exact Res.of ⟨pr.imp fun σ H Q q => re_lr2 q, fun _ => pr.imp fun σ H Q q => rn_lr2 q⟩
      · obtain ⟨hx, a⟩ := a
        obtain ⟨y, py, es', rp, rfl, hy, gy, hl, a⟩ := rg a
        match es', hl with
        | [e], _ =>
          have pe := hL _ a
          have gx := h.gx hg
          have gy := h.gx gy
          obtain rfl := isS_eq hx
          obtain rfl := isS_eq hy
          obtain ⟨a1, rfl, hs, p1⟩ := pe.one
          have pr := pe_tupRg (p := px) (pos := pos) h.calm gx (h.gl.blt _ (by simp [bltL])) (prg_1 (p := py) (pos := rp) gy (h.gl.blt _ (by simp [bltL])) p1 (star_ok hs _ X.env)) (by rfl)
          exact Res.re rfl (pr.imp fun σ H Q q => re_tr1 q)
      · obtain ⟨hx, a⟩ := a
        obtain ⟨y, py, es', rp, rfl, hy, gy, hl, a⟩ := rg a
        match es', hl with
        | [e, e2], _ =>
          have pe := hL _ a
          have gx := h.gx hg
          have gy := h.gx gy
          obtain rfl := isS_eq hx
          obtain rfl := isS_eq hy
          obtain ⟨a1, a2, rfl, hs, hs2, p1, p2⟩ := pe.two
          have pr := pe_tupRg (p := px) (pos := pos) h.calm gx (h.gl.blt _ (by simp [bltL])) (prg_2 (p := py) (pos := rp) gy (h.gl.blt _ (by simp [bltL])) p1 p2 (star_ok hs _ X.env) (star_ok hs2 _ X.env) (stars_ok (es := [e2]) (by simp [hs2]) rp X.env)) (by rfl)
          exact Res.re rfl (pr.imp fun σ H Q q => re_tr2 q)
/-- methods -/
theorem meth_ok {sc : Scope} {fn : Str → Bool} {Wx : WX} {X : Cx} (h : XOK B tx k N sc fn Wx X) {cf : CallF} {p : Prim} {o as : Ex} {eo : Expr} {m : Str} {es : List Expr} {apos pos : Pos} (hb : noCallB eo = true) (hl : (apos.endLine == pos.line) = true) (hm : methB p m es.length = true)
    (po : PE X eo (RE X.K B Wx cf o)) (pe : PEs B Wx cf X as es) : PE X (.Call (.Attribute eo m apos) es [] pos) (RE X.K B Wx cf (.meth p o as)) := by
  cases p <;> simp only [methB, Bool.false_eq_true, Bool.and_eq_true, decide_eq_true_eq] at hm
  · obtain ⟨hm, hn⟩ := hm
    obtain rfl := isS_eq hm
    obtain rfl := List.length_eq_zero_iff.mp hn
    cases as <;> simp only [PEs] at pe
    exact (pe_bits po (base_ok hb _ X.env) hl).imp fun σ H Q q => re_bits q
  · obtain ⟨hm, hn⟩ := hm
    obtain rfl := isS_eq hm
    match es, hn with
    | [e], _ =>
      obtain ⟨a, rfl, hs, p1⟩ := pe.one
      refine (pe_bm PySem.F.plainAttrs_list PySem.F.slot_list_index PySem.F.type_list_index (mt_indexD (by have := h.hu; omega)) po pe.pa (base_ok hb _ X.env) ?_ hl (star_ok hs _ X.env) rfl).imp fun σ H Q q => re_index q
      rw [star_ok hs]
      try rfl
theorem re_dict0 {K : Frg} {B : Tab} {Wx : WX} {cf : CallF} {σ : L2.St} {H : Hp} {Q : VK} (h : RN K B Wx cf (.dict .nil .nil) σ H Q) : tDNewK σ H Q := by
  obtain ⟨U, ρ, env, st, r, q⟩ := h
  intro p hp
  obtain ⟨r2, x2⟩ := r.push (o := .dK []) (d := .dct [] []) hp fun W' H' sp e => ⟨[], e, rfl, rfl⟩
  exact (q.here r.toRelS) p _ r2 x2
theorem pe_callV {sc : Scope} {fn : Str → Bool} {Wx : WX} {X : Cx} (h : XOK B tx k N sc fn Wx X) {i n : Nat} {x : Str} {p pos : Pos} {e : Expr} {es : List Expr} {t : TA} (hn : n ≤ tx.nm.length) (hN : X.N[i]? = some x) (hv : Vis X.env.scope x) (ha : PA X (e :: es) t)
    (hdb : (x == Str.ofString "__debug__") = false) (hcd : (x == Str.ofString "__classdict__") = false)
    (he : starEach (e :: es) X.env = (false, eval e X.env) :: starEach es X.env) (hpl : (backTo pos (starEach es X.env)).any (·.1) = false) : PE X (.Call (.Name x p) (e :: es) [] pos) (tCallV B.fa i n (fun j => spCall X.K B (callF B.T k) j) (WE Wx) t) := by
  refine ⟨fun pins s σ H Q I hh => ?_⟩
  obtain ⟨j, hj, hs, ht⟩ := hh
  obtain ⟨F, g1, g2, g3⟩ := h.gl.call j tx.nm[j] (List.getElem?_eq_getElem (by omega))
  refine wpAny_Call_Name_kw (thn ((pe_var (pos := p) hN hv hdb hcd).run pins s σ H (fun v H1 => v = .ref (B.fa j) ∧ H1 = H) I ⟨.ref (B.fa j), hs, rfl, rfl⟩) fun u s1 ⟨v, H1, I1, r1, q1⟩ => ?_)
  obtain ⟨rfl, rfl⟩ := q1
  cases r1
  refine PySem.W.callWith_K (h₀ := X.base) I.ok.mod.kin g2 (thn (ha.run pos pins s1 σ _ _ I1 ht) fun us s2 ⟨vs, H2, I2, r, q⟩ => ⟨I2.kIn, ?_⟩) he hpl
  exact run_fnS F h.room g3 (passAt h.tk σ) I2 r q
theorem call_ok {sc : Scope} {fn : Str → Bool} {Wx : WX} {X : Cx} (h : XOK B tx k N sc fn Wx X) {j : Nat} {as : Ex} {x : Str} {p pos : Pos} {es : List Expr} (a1 : tx.nm[j]? = some x) (a2 : glB sc x = true) (a3 : (!dbg x) = true) (pe : PEs B Wx (callF B.T k) X as es) :
    PE X (.Call (.Name x p) es [] pos) (RE X.K B Wx (callF B.T k) (.call j as)) := by
  obtain ⟨F, g1, g2, g3⟩ := h.gl.call j _ a1
  cases es with
  | nil =>
    cases as <;> simp only [PEs] at pe
    exact (pe_call0 F h.room (h.gx a2) g1 g2 g3 .nil (fun pins σ H s e s' I q => passAt takes0 σ pins H s e s' I q) (dbg_no a3)).imp fun σ H Q q => re_call0 q
  | cons e1 es =>
    have st := pe.stars
    simp only [List.all_cons, Bool.and_eq_true] at st
    refine (pe_callS F h.room (h.gx a2) g1 g2 g3 (fun σ => passAt h.tk σ) pe.pa (dbg_no a3) (star_ok st.1 es X.env) (stars_ok st.2 pos X.env)).imp fun σ H Q q => re_call ?_ q
    rintro rfl
    simp [PEs] at pe
def isBoo : Expr → Prop
  | .BoolOp _ _ _ => True
  | _ => False
theorem test_of {Wx : WX} {X : Cx} {cf : CallF} {ir : Ex} {e : Expr} (h : PE X e (RE X.K B Wx cf ir)) (t : testB e = true) : PT X e (RT X.K B Wx cf ir) ∧ (isBoo e → PW X e (RT X.K B Wx cf ir)) :=
  ⟨(pt_truth h (test_ok t X.env)).imp fun σ H Q q => re_test q, fun z => by cases e <;> first | (exact (show False from z).elim) | (simp [testB] at t)⟩
mutual
theorem sndE : ∀ (ir : Ex) {sc : Scope} {fn : Str → Bool} {Wx : WX} {X : Cx} (h : XOK B tx k N sc fn Wx X) (sr : Bool) (e : Expr), agE tx N ir sc fn sr e = true → Res B Wx (callF B.T k) X ir sr e
  | .var i, sc, fn, Wx, X, h, sr, e, a => by
    cases e <;> simp only [agE, Bool.false_eq_true, Bool.and_eq_true, decide_eq_true_eq] at a
    have cd : ∀ {x : Str}, (!isS x "__classdict__") = true → (x == Str.ofString "__classdict__") = false := fun {x} q => by
      simp only [isS, Bool.not_eq_true', decide_eq_false_iff_not] at q
      simpa using q
    exact Res.re rfl ((pe_var (i := i) (by rw [h.hN]; exact a.1) (h.vis a.2.1) (dbg_no a.2.2.1) (cd a.2.2.2)).imp fun σ H Q q => re_var q)
  | .cst d, sc, fn, Wx, X, h, sr, e, a => by
    cases e <;> simp only [agE, Bool.false_eq_true] at a
    · exact Res.re rfl (cst_pe a)
    · rename_i x p
      rw [Bool.and_eq_true, Bool.and_eq_true] at a
      obtain ⟨a1, a2, a3⟩ := a
      have gx := h.gx a1
      have dn := dbg_no a2
      have con : conB tx.con x d = true → Res B Wx (callF B.T k) X (.cst d) sr (.Name x p) := fun c => by
        obtain ⟨u, v, g1, g2, g3⟩ := h.gl.con x d c
        exact Res.re rfl ((pe_glob gx g1 g2 dn).imp fun σ H Q q => re_cst g3 q)
      cases d with
      | fn j =>
        simp only [decide_eq_true_eq] at a3
        obtain ⟨_, g1, _, _⟩ := h.gl.call j x a3
        exact Res.re rfl ((pe_glob (v := .ref (B.fa j)) gx g1 rfl dn).imp fun σ H Q q => re_cst (fun _ _ => by simp [Rep]) q)
      | _ => exact con a3
  | .bin op a b, sc, fn, Wx, X, h, sr, e, ag => by
    cases e <;> simp only [agE, Bool.false_eq_true, Bool.and_eq_true] at ag
    obtain ⟨a1, a2, a3⟩ := ag
    obtain rfl := boOp_eq a1
    have p := pe_op (pos := by assumption) (op_bin op) (sndE a h false _ a2).1 (sndE b h false _ a3).1
    refine Res.of ⟨p.imp fun σ H Q q => re_bin q, fun hn => ?_⟩
    cases op <;> simp only [newE, Bool.false_eq_true] at hn
    · exact p.imp fun σ H Q q => rn_bin new_add q
    · exact p.imp fun σ H Q q => rn_bin new_mul q
  | .neg a, sc, fn, Wx, X, h, sr, e, ag => by
    cases e <;> simp only [agE, Bool.false_eq_true, Bool.and_eq_true] at ag
    rename_i op l p
    cases op <;> simp only [Bool.false_eq_true, false_and] at ag
    exact Res.re rfl ((pe_un un_neg (sndE a h false _ ag.2).1).imp fun σ H Q q => re_neg q)
  | .cmp op a b, sc, fn, Wx, X, h, sr, e, ag => by
    cases e <;> simp only [agE, Bool.false_eq_true] at ag
    split at ag
    case h_2 => cases ag
    simp only [Bool.and_eq_true, Bool.not_eq_true'] at ag
    obtain ⟨a1, a2, a3, a4⟩ := ag
    obtain rfl := coOp_eq a1
    exact Res.re rfl ((pe_cmpR (op_cmp (fa := B.fa) h.hu op) (sndE a h false _ a3).1 (sndE b h false _ a4).1 a2).imp fun σ H Q q => re_cmp q)
  | .chain op op' a b c, sc, fn, Wx, X, h, sr, e, ag => by
    cases e <;> simp only [agE, Bool.false_eq_true] at ag
    split at ag
    case h_2 => cases ag
    simp only [Bool.and_eq_true, Bool.not_eq_true'] at ag
    obtain ⟨a1, a2, a3, a4, a5, a6⟩ := ag
    obtain rfl := coOp_eq a1
    obtain rfl := coOp_eq a2
    exact Res.re rfl ((pe_chain (op_cmp (fa := B.fa) h.hu op) (op_cmp (fa := B.fa) h.hu op') (sndE a h false _ a4).1 (sndE b h false _ a5).1 (sndE c h false _ a6).1 a3).imp fun σ H Q q => re_chain q)
  | .and a b, sc, fn, Wx, X, h, sr, e, ag => by
    cases e <;> simp only [agE, Bool.false_eq_true, Bool.and_eq_true] at ag
    rename_i o vs p
    obtain ⟨a0, ag⟩ := ag
    cases o <;> simp only [Bool.false_eq_true] at a0
    split at ag
    · simp only [Bool.and_eq_true] at ag
      exact Res.re rfl ((pe_andT (sndE a h false _ ag.1).1 (pe_one (sndE b h false _ ag.2).1)).imp fun σ H Q q => re_and q)
    · simp only [Bool.and_eq_true] at ag
      exact Res.re rfl ((pe_andT (sndE a h false _ ag.1).1 (sndE b h false _ ag.2).1).imp fun σ H Q q => re_and q)
    · cases ag
  | .or a b, sc, fn, Wx, X, h, sr, e, ag => by
    cases e <;> simp only [agE, Bool.false_eq_true, Bool.and_eq_true] at ag
    rename_i o vs p
    obtain ⟨a0, ag⟩ := ag
    cases o <;> simp only [Bool.false_eq_true] at a0
    split at ag
    · simp only [Bool.and_eq_true] at ag
      exact Res.re rfl ((pe_orT (sndE a h false _ ag.1).1 (pe_one (sndE b h false _ ag.2).1)).imp fun σ H Q q => re_or q)
    · simp only [Bool.and_eq_true] at ag
      exact Res.re rfl ((pe_orT (sndE a h false _ ag.1).1 (sndE b h false _ ag.2).1).imp fun σ H Q q => re_or q)
    · cases ag
  | .not a, sc, fn, Wx, X, h, sr, e, ag => by
    cases e <;> simp only [agE, Bool.false_eq_true, Bool.and_eq_true] at ag
    rename_i op l p
    cases op <;> simp only [Bool.false_eq_true, false_and] at ag
    exact Res.re rfl ((pe_notT (sndE a h false _ ag.2).1).imp fun σ H Q q => re_not q)
  | .ite c a b, sc, fn, Wx, X, h, sr, e, ag => by
    cases e <;> simp only [agE, Bool.false_eq_true, Bool.and_eq_true] at ag
    exact Res.re rfl ((pe_ifExp (sndT c h _ ag.1.1 ag.1.2).1 (sndE a h false _ ag.2.1).1 (sndE b h false _ ag.2.2).1).imp fun σ H Q q => re_ite q)
  | .tup as, sc, fn, Wx, X, h, sr, e, ag => by
    cases e <;> simp only [agE, Bool.false_eq_true] at ag
    exact Res.re rfl ((pe_tup (sndL as h _ ag).pa).imp fun σ H Q q => re_tup q)
  | .lst as, sc, fn, Wx, X, h, sr, e, ag => by
    cases e <;> simp only [agE, Bool.false_eq_true] at ag
    have p := pe_lst (pos := by assumption) (sndL as h _ ag).pa
    exact Res.of ⟨p.imp fun σ H Q q => re_lst q, fun _ => p.imp fun σ H Q q => rn_lst q⟩
  | .ix a b, sc, fn, Wx, X, h, sr, e, ag => by
    cases e <;> simp only [agE, Bool.false_eq_true, Bool.and_eq_true] at ag
    exact Res.re rfl ((pe_ix (op_ixG (by have := h.hu; omega)) (sndE a h false _ ag.2.1).1 (sndE b h false _ ag.2.2).1 (plainIx_ok ag.1)).imp fun σ H Q q => re_ix q)
  | .slc a lo hi, sc, fn, Wx, X, h, sr, e, ag => by
    cases e <;> simp only [agE, Bool.false_eq_true] at ag
    split at ag
    case h_2 => cases ag
    rename_i elo ehi p2
    simp only [Bool.and_eq_true] at ag
    obtain ⟨a1, a2, a3⟩ := ag
    have pl : isCN lo = elo.isNone ∧ PO X elo (tO X.K B Wx (callF B.T k) elo lo) := by
      cases elo with
      | none => exact ⟨a2, po_none⟩
      | some e =>
        simp only [Bool.and_eq_true, Bool.not_eq_true'] at a2
        exact ⟨a2.1, po_some (sndE lo h false _ a2.2).1⟩
    have ph : isCN hi = ehi.isNone ∧ PO X ehi (tO X.K B Wx (callF B.T k) ehi hi) := by
      cases ehi with
      | none => exact ⟨a3, po_none⟩
      | some e =>
        simp only [Bool.and_eq_true, Bool.not_eq_true'] at a3
        exact ⟨a3.1, po_some (sndE hi h false _ a3.2).1⟩
    exact Res.re rfl ((pe_slice sl_D (sndE a h false _ a1).1 pl.2 ph.2).imp fun σ H Q q => re_slc pl.1 ph.1 q)
  | .call j as, sc, fn, Wx, X, h, sr, e, ag => by
    cases e <;> simp only [agE, Bool.false_eq_true] at ag
    split at ag
    case h_2 => cases ag
    simp only [Bool.and_eq_true, decide_eq_true_eq] at ag
    obtain ⟨a1, a2, a3, a4⟩ := ag
    exact Res.re rfl (call_ok h a1 a2 a3 (sndL as h _ a4))
  | .prim p as, sc, fn, Wx, X, h, sr, e, ag => by
    cases e <;> simp only [agE, Bool.false_eq_true, Bool.and_eq_true, List.isEmpty_iff] at ag
    obtain ⟨rfl, ag⟩ := ag
    exact prim_ok h (fun es he => sndL as h es he) ag
  | .calv i n as, sc, fn, Wx, X, h, sr, e, ag => by
    cases e <;> simp only [agE, Bool.false_eq_true] at ag
    split at ag
    case h_2 => cases ag
    rename_i es pos _ _ x p
    simp only [Bool.and_eq_true, decide_eq_true_eq] at ag
    obtain ⟨a1, a2, a3, a4, a5, a6, a7⟩ := ag
    have cd : (x == Str.ofString "__classdict__") = false := by
      simp only [isS, Bool.not_eq_true', decide_eq_false_iff_not] at a6
      simpa using a6
    cases es with
    | nil => exact absurd rfl a3
    | cons e1 es =>
      have pe := sndL as h _ a7
      have st := pe.stars
      simp only [List.all_cons, Bool.and_eq_true] at st
      exact Res.re rfl ((pe_callV h a2 (by rw [h.hN]; exact a1) (h.vis a4) pe.pa (dbg_no a5) cd (star_ok st.1 es X.env) (stars_ok st.2 _ X.env)).imp fun σ H Q q => re_calv q)
  | .meth p o as, sc, fn, Wx, X, h, sr, e, ag => by
    cases e <;> simp only [agE, Bool.false_eq_true] at ag
    split at ag
    case h_2 => cases ag
    simp only [Bool.and_eq_true] at ag
    obtain ⟨a1, a2, a3, a4, a5⟩ := ag
    exact Res.re rfl (meth_ok h a1 a2 a3 (sndE o h false _ a4).1 (sndL as h _ a5))
  | .comp elt own tg src c, sc, fn, Wx, X, h, sr, e, ag => by
    cases e <;> simp only [agE, Bool.false_eq_true] at ag
    split at ag
    case h_2 => cases ag
    rename_i e0 scope pos gs t it ifs
    simp only [Bool.and_eq_true] at ag
    obtain ⟨a1, a2, ⟨a0, a3⟩, a4, a5, a6, a7⟩ := ag
    have hs : ∀ i ∈ slots tg, i ∈ own := by
      intro i hi
      simp only [slotsIn, List.all_eq_true, List.contains_iff_mem] at a2
      exact a2 i hi
    have ok : BlkOk X.N X.env.scope scope (ownOf N own) := by rw [h.hN, h.sc]; exact blkOk_by a1
    have nd : X.N.Nodup := by rw [h.hN]; exact h.nd
    have ptt : ∃ tt : TT, (∀ σ H Q, RT X.K B (fun _ _ _ _ => False) (callF B.T k) c σ H Q → tt σ H Q) ∧ ∀ (s : Shared) (H : Hp) (C : Addr) (cl : List (Str × Addr)) (fp : List Addr), PTs (X.blk s H scope (compEnvC scope cl C X.env) fp) ifs tt := by
      split at a7
      · refine ⟨tYes, fun σ H Q q => ?_, fun _ _ _ _ _ => pts_nil⟩
        have : c = .cst (.bl true) := by
          unfold isCT at a7
          split at a7
          · rfl
          · cases a7
        subst this
        obtain ⟨U, ρ, env, st, r, q⟩ := q
        simp only [evE] at q
        obtain ⟨b, e1, q⟩ := q.here r.toRelS
        cases e1
        exact q
      · simp only [Bool.and_eq_true] at a7
        exact ⟨RT X.K B (fun _ _ _ _ => False) (callF B.T k) c, fun _ _ _ q => q, fun s H C cl fp => pts_one (sndT c (h.blk s H C cl fp scope) _ a7.1 a7.2).1⟩
      · cases a7
    obtain ⟨tt, ht, pt⟩ := ptt
    have p := pe_lc (own := ownOf N own) (pos := pos) (g := RG X.K B tg) (tt := tt) (te := RE X.K B (fun _ _ _ _ => False) (callF B.T k) elt) h.calm nd (sndE src h true _ a5 t a0) ok (fun s H C cl fp => sndG (h.blk s H C cl fp scope) tg t a3) pt (fun s H C cl fp => (sndE elt (h.blk s H C cl fp scope) false _ a6).1) (set_ok a4 X.env)
    rw [own_snd] at p
    exact Res.of ⟨p.imp fun σ H Q q => re_comp hs (tg_kind a3) ht q, fun _ => p.imp fun σ H Q q => rn_comp hs (tg_kind a3) ht q⟩
  | .nil, sc, fn, Wx, X, h, sr, e, ag => by cases e <;> simp [agE] at ag
  | .cons _ _, sc, fn, Wx, X, h, sr, e, ag => by cases e <;> simp [agE] at ag
  | .slcR _, sc, fn, Wx, X, h, sr, e, ag => by cases e <;> simp [agE] at ag
  | .enumE a, sc, fn, Wx, X, h, sr, e, ag => by
    cases e <;> simp only [agE, Bool.false_eq_true] at ag
    split at ag
    case h_2 => cases ag
    rename_i pos _ _ _ x px e1
    simp only [Bool.and_eq_true] at ag
    obtain ⟨hs, hx, hg, hd, hn, a1⟩ := ag
    subst hs
    have gx := h.gx hg
    obtain rfl := isS_eq hx
    have pe := (sndE a h false _ a1).1
    intro tg ht
    cases tg <;> simp [enI, isTupE] at ht
    have pa : PA X [e1] (tCons (RE X.K B Wx (callF B.T k) a) tNil) := pa_cons pe pa_nil (star_ok hn _ X.env)
    exact (pi_or (pi_enum gx (h.gl.blt _ (by simp [bltL])) pa (by rw [star_ok hn]; rfl)) (pi_enumT gx (h.gl.blt _ (by simp [bltL])) pa (by rw [star_ok hn]; rfl))).imp fun σ H R q => ri_enumE q
  | .comp2 _ _ _ _ _ _, sc, fn, Wx, X, h, sr, e, ag => by cases e <;> simp [agE] at ag
  | .dcomp _ _ _ _ _ _, sc, fn, Wx, X, h, sr, e, ag => by cases e <;> simp [agE] at ag
  | .dict ks vs, sc, fn, Wx, X, h, sr, e, ag => by
    cases e <;> simp only [agE, Bool.false_eq_true] at ag
    rename_i kes ves pos
    split at ag
    case h_2 => cases ag
    have rn : PE X (.Dict [] [] pos) (RN X.K B Wx (callF B.T k) (.dict .nil .nil)) := pe_dnewK.imp fun σ H Q q => re_dict0 q
    exact Res.of ⟨RN.to rn fun env st d st' e => by cases e; exact ⟨[], .inr ⟨[], rfl⟩⟩, fun _ => rn⟩
theorem sndL : ∀ (ir : Ex) {sc : Scope} {fn : Str → Bool} {Wx : WX} {X : Cx} (h : XOK B tx k N sc fn Wx X) (es : List Expr), agL tx N ir sc fn es = true → PEs B Wx (callF B.T k) X ir es
  | .nil, sc, fn, Wx, X, h, [], ag => trivial
  | .nil, sc, fn, Wx, X, h, _ :: _, ag => by simp [agL] at ag
  | .cons a as, sc, fn, Wx, X, h, [], ag => by simp [agL] at ag
  | .cons a as, sc, fn, Wx, X, h, e :: es, ag => by
    simp only [agL, Bool.and_eq_true] at ag
    exact ⟨ag.1, (sndE a h false _ ag.2.1).1, sndL as h es ag.2.2⟩
  | .var _, sc, fn, Wx, X, h, es, ag => by cases es <;> simp [agL] at ag
  | .cst _, sc, fn, Wx, X, h, es, ag => by cases es <;> simp [agL] at ag
  | .bin _ _ _, sc, fn, Wx, X, h, es, ag => by cases es <;> simp [agL] at ag
  | .neg _, sc, fn, Wx, X, h, es, ag => by cases es <;> simp [agL] at ag
  | .cmp _ _ _, sc, fn, Wx, X, h, es, ag => by cases es <;> simp [agL] at ag
  | .chain _ _ _ _ _, sc, fn, Wx, X, h, es, ag => by cases es <;> simp [agL] at ag
  | .and _ _, sc, fn, Wx, X, h, es, ag => by cases es <;> simp [agL] at ag
  | .or _ _, sc, fn, Wx, X, h, es, ag => by cases es <;> simp [agL] at ag
  | .not _, sc, fn, Wx, X, h, es, ag => by cases es <;> simp [agL] at ag
  | .ite _ _ _, sc, fn, Wx, X, h, es, ag => by cases es <;> simp [agL] at ag
  | .tup _, sc, fn, Wx, X, h, es, ag => by cases es <;> simp [agL] at ag
  | .lst _, sc, fn, Wx, X, h, es, ag => by cases es <;> simp [agL] at ag
  | .ix _ _, sc, fn, Wx, X, h, es, ag => by cases es <;> simp [agL] at ag
  | .slc _ _ _, sc, fn, Wx, X, h, es, ag => by cases es <;> simp [agL] at ag
  | .slcR _, sc, fn, Wx, X, h, es, ag => by cases es <;> simp [agL] at ag
  | .enumE _, sc, fn, Wx, X, h, es, ag => by cases es <;> simp [agL] at ag
  | .call _ _, sc, fn, Wx, X, h, es, ag => by cases es <;> simp [agL] at ag
  | .calv _ _ _, sc, fn, Wx, X, h, es, ag => by cases es <;> simp [agL] at ag
  | .prim _ _, sc, fn, Wx, X, h, es, ag => by cases es <;> simp [agL] at ag
  | .meth _ _ _, sc, fn, Wx, X, h, es, ag => by cases es <;> simp [agL] at ag
  | .comp _ _ _ _ _, sc, fn, Wx, X, h, es, ag => by cases es <;> simp [agL] at ag
  | .comp2 _ _ _ _ _ _, sc, fn, Wx, X, h, es, ag => by cases es <;> simp [agL] at ag
  | .dcomp _ _ _ _ _ _, sc, fn, Wx, X, h, es, ag => by cases es <;> simp [agL] at ag
  | .dict _ _, sc, fn, Wx, X, h, es, ag => by cases es <;> simp [agL] at ag
theorem sndT : ∀ (ir : Ex) {sc : Scope} {fn : Str → Bool} {Wx : WX} {X : Cx} (h : XOK B tx k N sc fn Wx X) (e : Expr), tsB ir = true → agE tx N ir sc fn false e = true → PT X e (RT X.K B Wx (callF B.T k) ir) ∧ (isBoo e → PW X e (RT X.K B Wx (callF B.T k) ir))
  | .and a b, sc, fn, Wx, X, h, e, tb, ag => by
    cases e <;> simp only [agE, Bool.false_eq_true, Bool.and_eq_true] at ag
    simp only [tsB, Bool.and_eq_true] at tb
    rename_i o vs p
    obtain ⟨a0, ag⟩ := ag
    cases o <;> simp only [Bool.false_eq_true] at a0
    split at ag
    · simp only [Bool.and_eq_true] at ag
      have w := (pw_and (pos := p) (sndT a h _ tb.1 ag.1).1 (pw_and1 (sndT b h _ tb.2 ag.2).1)).imp fun σ H Q q => rt_and q
      exact ⟨w.pt, fun _ => w⟩
    · simp only [Bool.and_eq_true] at ag
      have w := (pw_and (pos := p) (sndT a h _ tb.1 ag.1).1 ((sndT b h _ tb.2 ag.2).2 trivial)).imp fun σ H Q q => rt_and q
      exact ⟨w.pt, fun _ => w⟩
    · cases ag
  | .or a b, sc, fn, Wx, X, h, e, tb, ag => by
    cases e <;> simp only [agE, Bool.false_eq_true, Bool.and_eq_true] at ag
    simp only [tsB, Bool.and_eq_true] at tb
    rename_i o vs p
    obtain ⟨a0, ag⟩ := ag
    cases o <;> simp only [Bool.false_eq_true] at a0
    split at ag
    · simp only [Bool.and_eq_true] at ag
      have w := (pw_or (pos := p) (sndT a h _ tb.1 ag.1).1 (pw_or1 (sndT b h _ tb.2 ag.2).1)).imp fun σ H Q q => rt_or q
      exact ⟨w.pt, fun _ => w⟩
    · simp only [Bool.and_eq_true] at ag
      have w := (pw_or (pos := p) (sndT a h _ tb.1 ag.1).1 ((sndT b h _ tb.2 ag.2).2 trivial)).imp fun σ H Q q => rt_or q
      exact ⟨w.pt, fun _ => w⟩
    · cases ag
  | .not a, sc, fn, Wx, X, h, e, tb, ag => by
    cases e <;> simp only [agE, Bool.false_eq_true, Bool.and_eq_true] at ag
    rename_i op l p
    cases op <;> simp only [Bool.false_eq_true, false_and] at ag
    exact ⟨(pt_not (sndT a h _ tb ag.2).1).imp fun σ H Q q => rt_not q, fun z => z.elim⟩
  | .cmp op a b, sc, fn, Wx, X, h, e, tb, ag => by
    cases e <;> simp only [agE, Bool.false_eq_true] at ag
    split at ag
    case h_2 => cases ag
    simp only [Bool.and_eq_true, Bool.not_eq_true'] at ag
    obtain ⟨a1, a2, a3, a4⟩ := ag
    obtain rfl := coOp_eq a1
    exact ⟨(pt_cmpR (op_cmp (fa := B.fa) h.hu op) (sndE a h false _ a3).1 (sndE b h false _ a4).1 a2).imp fun σ H Q q => rt_cmp q, fun z => z.elim⟩
  | .chain op op' a b c, sc, fn, Wx, X, h, e, tb, ag => by
    cases e <;> simp only [agE, Bool.false_eq_true] at ag
    split at ag
    case h_2 => cases ag
    simp only [Bool.and_eq_true, Bool.not_eq_true'] at ag
    obtain ⟨a1, a2, a3, a4, a5, a6⟩ := ag
    obtain rfl := coOp_eq a1
    obtain rfl := coOp_eq a2
    exact ⟨(pt_chain (op_cmp (fa := B.fa) h.hu op) (op_cmp (fa := B.fa) h.hu op') (sndE a h false _ a4).1 (sndE b h false _ a5).1 (sndE c h false _ a6).1 a3).imp fun σ H Q q => rt_chain q, fun z => z.elim⟩
  | .ite _ _ _, sc, fn, Wx, X, h, e, tb, ag => by simp [tsB] at tb
  | .neg _, sc, fn, Wx, X, h, e, tb, ag => by simp [tsB] at tb
  | .nil, sc, fn, Wx, X, h, e, tb, ag => by cases e <;> simp [agE] at ag
  | .cons _ _, sc, fn, Wx, X, h, e, tb, ag => by cases e <;> simp [agE] at ag
  | .slcR _, sc, fn, Wx, X, h, e, tb, ag => by cases e <;> simp [agE] at ag
  | .enumE a, sc, fn, Wx, X, h, e, tb, ag => by
    cases e <;> simp only [agE, Bool.false_eq_true] at ag
    split at ag
    · simp at ag
    · cases ag
  | .calv i n as, sc, fn, Wx, X, h, e, tb, ag => test_of (sndE (.calv i n as) h false e ag).1 (by cases e <;> first | rfl | (simp [agE] at ag))
  | .comp2 _ _ _ _ _ _, sc, fn, Wx, X, h, e, tb, ag => by cases e <;> simp [agE] at ag
  | .dcomp _ _ _ _ _ _, sc, fn, Wx, X, h, e, tb, ag => by cases e <;> simp [agE] at ag
  | .dict ks vs, sc, fn, Wx, X, h, e, tb, ag => test_of (sndE (.dict ks vs) h false e ag).1 (by cases e <;> first | rfl | (simp [agE] at ag))
  | .var i, sc, fn, Wx, X, h, e, tb, ag => test_of (sndE (.var i) h false e ag).1 (by cases e <;> first | rfl | (simp [agE] at ag))
  | .cst d, sc, fn, Wx, X, h, e, tb, ag => test_of (sndE (.cst d) h false e ag).1 (by cases e <;> first | rfl | (simp [agE] at ag))
  | .bin op a b, sc, fn, Wx, X, h, e, tb, ag => test_of (sndE (.bin op a b) h false e ag).1 (by cases e <;> first | rfl | (simp [agE] at ag))
  | .tup as, sc, fn, Wx, X, h, e, tb, ag => test_of (sndE (.tup as) h false e ag).1 (by cases e <;> first | rfl | (simp [agE] at ag))
  | .lst as, sc, fn, Wx, X, h, e, tb, ag => test_of (sndE (.lst as) h false e ag).1 (by cases e <;> first | rfl | (simp [agE] at ag))
  | .ix a b, sc, fn, Wx, X, h, e, tb, ag => test_of (sndE (.ix a b) h false e ag).1 (by cases e <;> first | rfl | (simp [agE] at ag))
  | .slc a lo hi, sc, fn, Wx, X, h, e, tb, ag => test_of (sndE (.slc a lo hi) h false e ag).1 (by cases e <;> first | rfl | (simp [agE] at ag))
  | .call j as, sc, fn, Wx, X, h, e, tb, ag => test_of (sndE (.call j as) h false e ag).1 (by cases e <;> first | rfl | (simp [agE] at ag))
  | .prim p as, sc, fn, Wx, X, h, e, tb, ag => test_of (sndE (.prim p as) h false e ag).1 (by cases e <;> first | rfl | (simp [agE] at ag))
  | .meth p o as, sc, fn, Wx, X, h, e, tb, ag => test_of (sndE (.meth p o as) h false e ag).1 (by cases e <;> first | rfl | (simp [agE] at ag))
  | .comp elt own tg src c, sc, fn, Wx, X, h, e, tb, ag => test_of (sndE (.comp elt own tg src c) h false e ag).1 (by cases e <;> first | rfl | (simp [agE] at ag))
end
end
end Py
end
section
set_option Elab.async false
set_option linter.all false
set_option maxRecDepth 100000
set_option maxHeartbeats 4000000
namespace Py
open PySem L2
/-! ### statements: readings -/
abbrev WE1 (E : XK) : WX := fun cls dd _ H' => E cls dd H'
section
variable {K : Frg} {B : Tab} {U : Addr → Prop} {E : XK} {cf : CallF} {σ : L2.St} {H : Hp} {ρ : List Addr} {env : Env} {st : Store} {Dn : Ends}
/-- the ways out of a statement -/
def FlC (K : Frg) (B : Tab) (U : Addr → Prop) (Dn : Ends) : Fl → List Addr → Store → Hp → Prop
  | .nx env, ρ, st, H => ∀ σ, Rel K B.fa U ρ env st σ H → Dn.nx σ H
  | .bk env, ρ, st, H => ∀ σ, Rel K B.fa U ρ env st σ H → Dn.bk σ H
  | .ct env, ρ, st, H => ∀ σ, Rel K B.fa U ρ env st σ H → Dn.ct σ H
  | .rt d, ρ, st, H => ∀ v, VRel K B.fa ρ (Wu U ρ st) H d v → Dn.rt v H
def RS (K : Frg) (B : Tab) (E : XK) (cf : CallF) (ir : Sm) : TS := fun Dn σ H => ∃ U ρ env st, Rel K B.fa U ρ env st σ H ∧ Post K B U (WE1 E) σ ρ st H (evS cf ir env st) (FlC K B U Dn)
theorem post_any {α : Type} {o : Out α} {C : α → List Addr → Store → Hp → Prop} {σ' : L2.St} (q : Post K B U (WE1 E) σ ρ st H o C) : Post K B U (WE1 E) σ' ρ st H o C := post_at (fun _ _ _ w => w) q
theorem rs_nil (h : RS K B E cf .nil Dn σ H) : tNext Dn σ H := by
  obtain ⟨U, ρ, env, st, r, q⟩ := h
  simp only [evS] at q
  exact q.here r.toRelS σ r
theorem rs_seq {s r : Sm} (h : RS K B E cf (.seq s r) Dn σ H) : tSeq (RS K B E cf s) (RS K B E cf r) Dn σ H := by
  obtain ⟨U, ρ, env, st, r, q⟩ := h
  simp only [evS] at q
  refine ⟨U, ρ, env, st, r, q.bind.mono fun fl ρ1 st1 H1 _ s1 x1 q => ?_⟩
  cases fl with
  | nx env' => exact fun σ' r' => ⟨U, ρ1, env', st1, r', post_any q⟩
  | bk env' => exact Post.here (C := FlC K B U Dn) s1 q
  | ct env' => exact Post.here (C := FlC K B U Dn) s1 q
  | rt d => exact Post.here (C := FlC K B U Dn) s1 q
theorem rs_set {tg e : Ex} (h : RS K B E cf (.set tg e) Dn σ H) : tAsg (RE K B (WE1 E) cf e) (RG K B tg) Dn σ H := by
  obtain ⟨U, ρ, env, st, r, q⟩ := h
  simp only [evS] at q
  refine RE.first r q fun d ρ1 st1 H1 v r1 x1 hv q => ?_
  have two : ∀ (o : Option Env), Post K B U (WE1 E) σ ρ1 st1 H1 ((opt st1 o).bind fun env' st => .ok (.nx env') st) (FlC K B U Dn) → ∃ env', o = some env' ∧ ∀ σ', Rel K B.fa U ρ1 env' st1 σ' H1 → Dn.nx σ' H1 := fun o q => by
    cases o with
    | none => exact (show False from q).elim
    | some env' => exact ⟨env', rfl, q.here r1.toRelS⟩
  cases tg with
  | var i => exact ⟨U, ρ1, env, st1, d, _, r1, hv, rfl, fun σ' r' _ => q.here r1.toRelS σ' r'⟩
  | _ =>
    obtain ⟨env', e1, q⟩ := two _ q
    exact ⟨U, ρ1, env, st1, d, env', r1, hv, e1, fun σ' r' _ => q σ' r'⟩
theorem _root_.L2.PS.impI {X : Cx} {e : Stmt} {t t' : TS} (h : PS X e t) (i : ∀ Dn σ H, σ.length = X.N.length → t' Dn σ H → t Dn σ H) : PS X e t' := ⟨fun pins s σ H Dn I q => h.run pins s σ H Dn I (i Dn σ H I.len q)⟩
/-- a value, or a new list as a cell -/
def RX (K : Frg) (B : Tab) (E : XK) (cf : CallF) (n : Bool) (e : Ex) : TE := match n with
  | true => RN K B (WE1 E) cf e
  | false => RE K B (WE1 E) cf e
theorem rx_first {β : Type} {n : Bool} {e : Ex} {g : D → Store → Out β} {C : β → List Addr → Store → Hp → Prop} {R : VK} (r : Rel K B.fa U ρ env st σ H) (q : Post K B U (WE1 E) σ ρ st H ((evN cf n e env st).bind g) C)
    (k : ∀ d ρ1 st1 H1 v, Rel K B.fa U ρ1 env st1 σ H1 → Ext ρ st H ρ1 st1 H1 → VRel K B.fa ρ1 (Wu U ρ1 st1) H1 d v → Post K B U (WE1 E) σ ρ1 st1 H1 (g d st1) C → R v H1) : RX K B E cf n e σ H R := by
  cases n with
  | false => exact RE.first r q k
  | true =>
    simp only [evN] at q
    rw [bind_assoc] at q
    refine ⟨U, ρ, env, st, r, q.bind.mono fun d ρ1 st1 H1 _ s1 x1 q p H2 r2 x2 => ?_⟩
    exact k (.loc st1.length) _ _ _ _ r2 (x1.trans x2) ⟨p, rfl, by rw [← s1.len]; simp⟩ (Post.shift x2 q)
theorem rs_new {i n : Nat} {e : Ex} (hn : i < n) (hl : σ.length = n) (h : RS K B E cf (.new i e) Dn σ H) : tAsg (RN K B (WE1 E) cf e) (gName i) Dn σ H := by
  obtain ⟨U, ρ, env, st, r, q⟩ := h
  simp only [evS] at q
  refine rx_first (n := true) r q fun d ρ1 st1 H1 v r1 x1 hv q => ?_
  exact q.here r1.toRelS _ (r1.setv (by omega) hv)
theorem rs_par {i j n : Nat} {ni nj : Bool} {a b : Ex} (hi : i < n) (hj : j < n) (hl : σ.length = n) (h : RS K B E cf (.par i ni j nj a b) Dn σ H) : tPar i j (tCons (RX K B E cf ni a) (tCons (RX K B E cf nj b) tNil)) Dn σ H := by
  obtain ⟨U, ρ, env, st, r, q⟩ := h
  simp only [evS] at q
  refine rx_first r q fun d ρ1 st1 H1 v r1 x1 hv q => rx_first r1 q fun d2 ρ2 st2 H2 v2 r2 x2 hv2 q => ?_
  exact ⟨v, v2, rfl, q.here r2.toRelS _ ((r2.setv (by omega) (x2.vrel hv)).setv (by rw [List.length_set]; omega) hv2)⟩
/-- a cell written -/
theorem wr_ok {x : D} {g : D → Option D} {st' : Store} (e : wr st x g = some st') : ∃ l d d', x = .loc l ∧ st[l]? = some ⟨false, d⟩ ∧ g d = some d' ∧ st' = st.set l ⟨false, d'⟩ := by
  unfold wr at e
  split at e
  case h_2 => cases e
  rename_i l
  split at e
  case h_2 => cases e
  rename_i d hd
  obtain ⟨d', h1, h2⟩ := map_inv e
  exact ⟨l, d, d', rfl, hd, h1, h2.symm⟩
/-- stores into a list or a dict -/
def rSet : TSet := fun o i v H Q => rSetL o i v H Q ∨ rSetD o i v H Q
theorem set_any {X : Cx} (hu : X.A.units + 1 < cLine) : PSet X rSet := fun pins s σ H o i v ov iv u Q I ro ri rv h =>
  h.elim (set_list pins s σ H o i v ov iv u Q I ro ri rv) (set_dict hu pins s σ H o i v ov iv u Q I ro ri rv)
theorem putK_ok {K : Frg} {fa : Nat → Addr} {W : Addr → Prop} {H : Hp} {kd : D} {j : Key} (hk : keyOf kd = some j) {d : D} {v : V} (hv : Rep K fa W H d v) {ks ds : List D} {kvs : List (Key × V)} (h1 : ks.map keyOf = kvs.map (fun p => some p.1)) (h2 : Reps K fa W H ds (kvs.map (·.2))) :
    (Py.putK ks ds kd d).1.map keyOf = (L2.putK kvs j v).map (fun p => some p.1) ∧ Reps K fa W H (Py.putK ks ds kd d).2 ((L2.putK kvs j v).map (·.2)) := by
  have any : (ks.any fun y => keyEq y kd) = kvs.any fun kv => decide (kv.1 = j) := by
    clear h2
    induction kvs generalizing ks with
    | nil => cases ks <;> simp_all
    | cons p kvs ih =>
      cases ks with
      | nil => simp at h1
      | cons k' ks =>
        simp only [List.map_cons, List.cons.injEq] at h1
        rw [List.any_cons, List.any_cons, ih h1.2, keyEq_iff h1.1 hk]
  unfold Py.putK L2.putK
  rw [any]
  by_cases c : (kvs.any fun kv => decide (kv.1 = j)) = true
  · rw [if_pos c, if_pos c]
    clear any c
    induction kvs generalizing ks ds with
    | nil =>
      cases ks with
      | nil => cases ds <;> simp_all [repV, Reps]
      | cons k' ks => simp at h1
    | cons p kvs ih =>
      cases ks with
      | nil => simp at h1
      | cons k' ks =>
        simp only [List.map_cons, List.cons.injEq] at h1
        cases ds with
        | nil => simp [Reps] at h2
        | cons d0 ds =>
          simp only [List.map_cons, Reps, List.cons.injEq] at h2
          obtain ⟨v0, r, ⟨rfl, rfl⟩, h3, h4⟩ := h2
          obtain ⟨i1, i2⟩ := ih h1.2 h4
          simp only [List.map_cons]
          refine ⟨?_, ?_⟩
          · have i1' : List.map keyOf ks = _ := i1
            rw [i1', h1.1]
            by_cases q : p.1 = j <;> simp [q]
          · show Reps K fa W H ((if keyEq k' kd then d else d0) :: repV ks ds kd d) _
            simp only [Reps]
            refine ⟨_, _, rfl, ?_, i2⟩
            rw [keyEq_iff h1.1 hk]
            by_cases q : p.1 = j
            · simp only [q, decide_true, if_true]; exact hv
            · simp only [q, decide_false, Bool.false_eq_true, if_false]; exact h3
  · rw [if_neg c, if_neg c]
    refine ⟨by simp [h1, hk], ?_⟩
    rw [List.map_append]
    exact h2.append (by simp only [List.map_cons, List.map_nil, Reps]; exact ⟨v, [], rfl, hv, rfl⟩)
theorem rs_setIx {c ix e : Ex} (h : RS K B E cf (.setIx c ix e) Dn σ H) : tAsg (RE K B (WE1 E) cf e) (gSub (RE K B (WE1 E) cf c) (RE K B (WE1 E) cf ix) rSet) Dn σ H := by
  obtain ⟨U, ρ, env, st, r, q⟩ := h
  simp only [evS] at q
  refine RE.first r q fun v ρ1 st1 H1 vv r1 x1 hv q => RE.first r1 q fun x ρ2 st2 H2 vx r2 x2 hx q => RE.first r2 q fun kd ρ3 st3 H3 vk r3 x3 hk q => ?_
  obtain ⟨st4, r4, x4, p, q⟩ := esc_ok r3 ((x2.trans x3).vrel hv) q
  cases e : wr st4 x (putIx kd (resolve st3 v)) with
  | none => rw [e] at q; exact (show False from q).elim
  | some st' =>
    rw [e] at q
    obtain ⟨l, d0, d', rfl, e1, e2, rfl⟩ := wr_ok e
    obtain ⟨a, rfl, ea⟩ := (x3.trans x4).vrel hx
    have hk' := x4.vrel hk
    have cc := r4.toRelS.cell l a _ ea e1
    cases d0 with
    | lst ds =>
      obtain ⟨vs, g1, g2⟩ := cc
      cases kd <;> simp only [putIx, reduceCtorEq] at e2
      rename_i i
      obtain ⟨j, e3, rfl⟩ := map_inv e2
      have hvk := cint (r4.toRelS.cont hk')
      subst hvk
      left
      refine ⟨a, vs, i, j, rfl, rfl, g1, by rw [← g2.length, ← idx_eq]; exact e3, ?_⟩
      obtain ⟨r5, x5⟩ := r4.write (o := .lst (vs.set j vv)) (d' := .lst (ds.set j (resolve st3 v))) ea e1 fun W' H' sp ho => ⟨_, ho, (sp.reps _ _ g2).set (sp.rep _ _ p) j⟩
      exact q _ _ r5.toRelS x5 σ r5
    | dct ks ds =>
      obtain ⟨kvs, g1, g3, g2⟩ := cc
      simp only [putIx] at e2
      split at e2
      case isFalse => cases e2
      rename_i hsz
      obtain ⟨pp, e3, rfl⟩ := map_inv e2
      unfold putD at e3
      split at e3 <;> cases e3
      rename_i hky
      obtain ⟨j, hj⟩ := key_of_isKey hky
      have hres : resolve st4 kd = kd := by cases kd <;> first | rfl | (simp [isKey] at hky)
      have hvk := cont_key (r4.toRelS.cont hk') (by rw [hres]; exact hj)
      subst hvk
      have hlen : kvs.length < sizeLine := by
        have l := congrArg List.length g3
        simp only [List.length_map] at l
        rw [← l, ← sz]
        exact hsz
      right
      refine ⟨a, _, rfl, DPut.k g1 hlen, ?_⟩
      obtain ⟨r5, x5⟩ := r4.write (o := .dK (L2.putK kvs j vv)) (d' := .dct (Py.putK ks ds kd (resolve st3 v)).1 (Py.putK ks ds kd (resolve st3 v)).2) ea e1 fun W' H' sp ho => by
        obtain ⟨a1, a2⟩ := putK_ok hj (sp.rep _ _ p) g3 (sp.reps _ _ g2)
        exact ⟨_, ho, a1, a2⟩
      exact q _ _ r5.toRelS x5 σ r5
    | _ => exact (show False from cc).elim
theorem ok_bindP {α β : Type} {a : α} {st : Store} {f : α → Store → Out β} : (Out.ok a st).bind f = f a st := rfl
theorem lstAt_ok {x k : D} {st : Store} {o : Out D} (h : lstAt x k st = o) : o = .stuck ∨ ∃ d l i ds, o = .ok d st ∧ x = .loc l ∧ k = .int (.ofNat i) ∧ st[l]? = some ⟨false, .lst ds⟩ ∧ ds[i]? = some d := by
  subst h
  unfold lstAt
  split
  · rename_i l i
    split
    · rename_i ds e
      cases k : ds[i]? with
      | none => exact .inl rfl
      | some d => exact .inr ⟨d, l, i, ds, rfl, rfl, rfl, e, k⟩
    · exact .inl rfl
  · exact .inl rfl
theorem rs_augIx {c ix e : Ex} {op : BOp} (h : RS K B E cf (.augIx c ix op e) Dn σ H) : tAugS (RE K B (WE1 E) cf c) (RE K B (WE1 E) cf ix) (RE K B (WE1 E) cf e) (rGetN K) (ipR op) rSet Dn σ H := by
  obtain ⟨U, ρ, env, st, r, q⟩ := h
  simp only [evS] at q
  refine RE.first r q fun x ρ1 st1 H1 vx r1 x1 hx q => RE.first r1 q fun kd ρ2 st2 H2 vk r2 x2 hk q => ?_
  rcases lstAt_ok (x := x) (k := kd) (st := st2) rfl with e0 | ⟨o, l, i, ds, e0, rfl, rfl, e1, e2⟩
  · rw [e0] at q; exact (show False from q).elim
  · rw [e0] at q
    obtain ⟨a, rfl, ea⟩ := x2.vrel hx
    have hvk := cint (r2.toRelS.cont hk)
    subst hvk
    obtain ⟨vs, g1, g2⟩ := r2.toRelS.cell l a _ ea e1
    obtain ⟨w, w1, w2⟩ := g2.get e2
    refine ⟨a, vs, i, w, rfl, rfl, g1, w1, ?_⟩
    refine RE.first r2 q fun y ρ3 st3 H3 vy r3 x3 hy q => ?_
    cases eg : augD op o (resolve st3 y) with
    | none => rw [eg] at q; exact (show False from q).elim
    | some z =>
      rw [eg] at q
      have ho : Cont K B.fa (Wu U ρ3 st3) H3 o w := by
        have := r3.toRelS.cont (x3.vrel (VRel.of w2))
        cases o <;> first | exact this | (simp [Rep] at w2)
      refine ok_aug op _ _ _ _ _ _ _ _ (fun a w => r3.toRelS.wrThere w) ho (r3.toRelS.cont hy) eg fun H' v g hv => ?_
      have r4 := r3.grow g
      have q4 := Post.shift (g.ext (ρ := ρ3) (st := st3)) q
      simp only [opt, ok_bindP] at q4
      cases ew : wr st3 (.loc l) (putIx (.int (.ofNat i)) z) with
      | none => rw [ew] at q4; exact (show False from q4).elim
      | some st' =>
        rw [ew] at q4
        obtain ⟨l', d0, d', el, f1, f2, rfl⟩ := wr_ok ew
        cases el
        obtain ⟨t, rfl⟩ := x3.pre
        have ea3 : (ρ2 ++ t)[l]? = some a := by
          rw [List.getElem?_append_left (List.getElem?_eq_some_iff.mp ea).1]; exact ea
        have cc := r4.toRelS.cell l a _ ea3 f1
        cases d0 with
        | lst es =>
          obtain ⟨us, h1, h2⟩ := cc
          simp only [putIx] at f2
          obtain ⟨j, f3, rfl⟩ := map_inv f2
          left
          refine ⟨a, us, _, j, rfl, rfl, h1, by rw [← h2.length, ← idx_eq]; exact f3, ?_⟩
          obtain ⟨r5, x5⟩ := r4.write (o := .lst (us.set j v)) (d' := .lst (es.set j z)) ea3 f1 fun W' H' sp ho => ⟨_, ho, (sp.reps _ _ h2).set (sp.rep _ _ hv) j⟩
          exact q4 _ _ r5.toRelS x5 σ r5
        | dct ks es =>
          obtain ⟨kvs, h1, h3, h2⟩ := cc
          simp only [putIx] at f2
          split at f2
          case isFalse => cases f2
          rename_i hsz
          obtain ⟨pp, f3, rfl⟩ := map_inv f2
          unfold putD at f3
          split at f3 <;> cases f3
          rename_i hky
          obtain ⟨j, hj⟩ := key_of_isKey hky
          have hvk := cont_key (fa := B.fa) (K := K) (W := Wu U (ρ2 ++ t) st3) (H := H') (v := .int (Int.ofNat i)) (show Cont K B.fa (Wu U (ρ2 ++ t) st3) H' (.int (.ofNat i)) (.int (Int.ofNat i)) from by simp [Cont, Rep]) hj
          have hlen : kvs.length < sizeLine := by
            have l := congrArg List.length h3
            simp only [List.length_map] at l
            rw [← l, ← sz]
            exact hsz
          right
          refine ⟨a, _, rfl, by rw [hvk]; exact DPut.k h1 hlen, ?_⟩
          obtain ⟨r5, x5⟩ := r4.write (o := .dK (L2.putK kvs j v)) (d' := .dct (Py.putK ks es (.int (.ofNat i)) z).1 (Py.putK ks es (.int (.ofNat i)) z).2) ea3 f1 fun W' H' sp ho => by
            obtain ⟨a1, a2⟩ := putK_ok hj (sp.rep _ _ hv) h3 (sp.reps _ _ h2)
            exact ⟨_, ho, a1, a2⟩
          exact q4 _ _ r5.toRelS x5 σ r5
        | _ => exact (show False from cc).elim
theorem rs_aug {i n : Nat} {op : BOp} {e : Ex} (hn : i < n) (hl : σ.length = n) (h : RS K B E cf (.aug i op e) Dn σ H) : tAug i (RE K B (WE1 E) cf e) (ipR op) Dn σ H := by
  obtain ⟨U, ρ, env, st, r, q⟩ := h
  simp only [evS] at q
  cases ei : env[i]? with
  | none => rw [ei] at q; exact (show False from q).elim
  | some o =>
    cases o with
    | none => rw [ei] at q; exact (show False from q).elim
    | some x =>
      rw [ei] at q
      obtain ⟨vx, q1, q2⟩ := r.env i x ei
      refine ⟨vx, q1, RE.first r q fun y ρ1 st1 H1 v1 r1 x1 h1 q => ?_⟩
      cases ea : augD op x (resolve st1 y) with
      | none => rw [ea] at q; exact (show False from q).elim
      | some z =>
        rw [ea] at q
        have hx : Cont K B.fa (Wu U ρ1 st1) H1 x vx := by
          have := r1.toRelS.cont (x1.vrel q2)
          cases x <;> first | exact this | (simp [augD] at ea)
        refine ok_aug op _ _ _ _ _ _ _ _ (fun a w => r1.toRelS.wrThere w) hx (r1.toRelS.cont h1) ea fun H' v g hv => ?_
        have r2 := r1.grow g
        exact q _ _ r2.toRelS g.ext _ (r2.setv (by omega) (VRel.of hv))
theorem app_at {x : D} {vx : V} (r1 : RelS K B.fa U ρ st H) (hx : VRel K B.fa ρ (Wu U ρ st) H x vx) (hl : isLst (resolve st x) = true) : tyV K "list" vx H := by
  have cx := r1.cont hx
  cases kd : resolve st x <;> rw [kd] at hl cx <;> simp only [isLst, Bool.false_eq_true] at hl
  obtain ⟨a, vs, rfl, t, _⟩ := clst cx
  exact .inl ⟨rfl, vs, .of t⟩
theorem rs_app {c e : Ex} (h : RS K B E cf (.app c e) Dn σ H) : tDrop (tBM K "list" rAppend (RE K B (WE1 E) cf c) (tCons (RE K B (WE1 E) cf e) tNil)) Dn σ H := by
  obtain ⟨U, ρ, env, st, r, q⟩ := h
  simp only [evS] at q
  refine RE.first r q fun x ρ1 st1 H1 vx r1 x1 hx q => ?_
  split at q
  case isFalse => exact (show False from q).elim
  rename_i hl
  refine ⟨app_at r1.toRelS hx hl, RE.first r1 q fun v ρ2 st2 H2 vv r2 x2 hv q => ?_⟩
  obtain ⟨st4, r4, x4, p, q⟩ := esc_ok r2 hv q
  cases e : wr st4 x (appD (resolve st2 v)) with
  | none => rw [e] at q; exact (show False from q).elim
  | some st' =>
    rw [e] at q
    obtain ⟨l, d0, d', rfl, e1, e2, rfl⟩ := wr_ok e
    obtain ⟨a, rfl, ea⟩ := (x2.trans x4).vrel hx
    have cc := r4.toRelS.cell l a _ ea e1
    cases d0 <;> simp only [appD, reduceCtorEq] at e2
    rename_i ds
    split at e2 <;> cases e2
    rename_i hsz
    obtain ⟨vs, g1, g2⟩ := cc
    refine ⟨a, vs, vv, rfl, rfl, g1, by rw [← g2.length, ← sz]; exact hsz, ?_⟩
    obtain ⟨r5, x5⟩ := r4.write (o := .lst (vs ++ [vv])) (d' := .lst (ds ++ [resolve st2 v])) ea e1 fun W' H' sp ho => ⟨_, ho, (sp.reps _ _ g2).append (by simp only [Reps]; exact ⟨vv, [], rfl, sp.rep _ _ p, rfl⟩)⟩
    exact q _ _ r5.toRelS x5 σ r5
theorem rs_ext {c e : Ex} (h : RS K B E cf (.ext c e) Dn σ H) : tDrop (tBM K "list" rExtend (RE K B (WE1 E) cf c) (tCons (RE K B (WE1 E) cf e) tNil)) Dn σ H := by
  obtain ⟨U, ρ, env, st, r, q⟩ := h
  simp only [evS] at q
  refine RE.first r q fun x ρ1 st1 H1 vx r1 x1 hx q => ?_
  split at q
  case isFalse => exact (show False from q).elim
  rename_i hl
  refine ⟨app_at r1.toRelS hx hl, RE.first r1 q fun v ρ2 st2 H2 vv r2 x2 hv q => ?_⟩
  cases e : wr st2 x (extD (resolve st2 v)) with
  | none => rw [e] at q; exact (show False from q).elim
  | some st' =>
    rw [e] at q
    obtain ⟨l, d0, d', rfl, e1, e2, rfl⟩ := wr_ok e
    obtain ⟨a, rfl, ea⟩ := x2.vrel hx
    have cc := r2.toRelS.cell l a _ ea e1
    have cv := r2.toRelS.cont hv
    cases d0 <;> simp only [extD, reduceCtorEq] at e2
    rename_i ds
    cases kv : resolve st2 v <;> rw [kv] at e2 cv <;> simp only [reduceCtorEq] at e2
    rename_i ms
    split at e2 <;> cases e2
    rename_i hsz
    obtain ⟨vs, g1, g2⟩ := cc
    obtain ⟨b, ws, rfl, t1, t2⟩ := clst cv
    refine ⟨a, b, vs, ws, rfl, rfl, g1, t1, by rw [← g2.length, ← t2.length, ← sz]; exact hsz, ?_⟩
    obtain ⟨r5, x5⟩ := r2.write (o := .lst (vs ++ ws)) (d' := .lst (ds ++ ms)) ea e1 fun W' H' sp ho => ⟨_, ho, (sp.reps _ _ g2).append (sp.reps _ _ t2)⟩
    exact q _ _ r5.toRelS x5 σ r5
theorem rs_popTo {i n : Nat} {c : Ex} (hn : i < n) (hln : σ.length = n) (h : RS K B E cf (.popTo i c) Dn σ H) : tAsg (tBM0 K "list" rPop (RE K B (WE1 E) cf c)) (gName i) Dn σ H := by
  obtain ⟨U, ρ, env, st, r, q⟩ := h
  simp only [evS] at q
  refine RE.first r q fun x ρ1 st1 H1 vx r1 x1 hx q => ?_
  cases e0 : popD (resolve st1 x) with
  | none => rw [e0] at q; exact (show False from q).elim
  | some yy =>
    obtain ⟨y, y2⟩ := yy
    rw [e0] at q
    simp only at q
    cases e : wr st1 x (fun d => (popD d).map (·.2)) with
    | none => rw [e] at q; exact (show False from q).elim
    | some st' =>
      rw [e] at q
      obtain ⟨l, d0, d', rfl, e1, e2, rfl⟩ := wr_ok e
      have hx' := hx
      obtain ⟨a, rfl, ea⟩ := hx'
      have cc := r1.toRelS.cell l a _ ea e1
      simp only [resolve, e1] at e0
      rw [e0] at e2
      cases e2
      cases d0 <;> simp only [popD, reduceCtorEq] at e0
      rename_i ds
      split at e0 <;> cases e0
      rename_i hlast
      obtain ⟨vs, g1, g2⟩ := cc
      have hy : ds[ds.length - 1]? = some y := by rw [← List.getLast?_eq_getElem?]; exact hlast
      obtain ⟨w, w1, w2⟩ := g2.get hy
      refine ⟨app_at r1.toRelS hx (by simp [resolve, e1, isLst]), a, vs, w, rfl, rfl, g1, by rw [← g2.length]; exact w1, ?_⟩
      obtain ⟨r5, x5⟩ := r1.write (o := .lst vs.dropLast) (d' := .lst ds.dropLast) ea e1 fun W' H' sp ho => ⟨_, ho, by
        rw [List.dropLast_eq_take, List.dropLast_eq_take, ← g2.length]
        exact (sp.reps _ _ g2).take _⟩
      exact q _ _ r5.toRelS x5 _ (r5.setv (by omega) (VRel.of (x5.step.rep _ _ w2)))
theorem rs_popTg {us c : Ex} (h : RS K B E cf (.popTg (.tup us) c) Dn σ H) : tAsg (tBM0 K "list" rPop (RE K B (WE1 E) cf c)) (RG K B (.tup us)) Dn σ H := by
  obtain ⟨U, ρ, env, st, r, q⟩ := h
  simp only [evS] at q
  refine RE.first r q fun x ρ1 st1 H1 vx r1 x1 hx q => ?_
  cases e0 : popD (resolve st1 x) with
  | none => rw [e0] at q; exact (show False from q).elim
  | some yy =>
    obtain ⟨y, y2⟩ := yy
    rw [e0] at q
    simp only at q
    cases e : wr st1 x (fun d => (popD d).map (·.2)) with
    | none => rw [e] at q; exact (show False from q).elim
    | some st' =>
      rw [e] at q
      obtain ⟨l, d0, d', rfl, e1, e2, rfl⟩ := wr_ok e
      have hx' := hx
      obtain ⟨a, rfl, ea⟩ := hx'
      have cc := r1.toRelS.cell l a _ ea e1
      simp only [resolve, e1] at e0
      rw [e0] at e2
      cases e2
      cases d0 <;> simp only [popD, reduceCtorEq] at e0
      rename_i ds
      split at e0 <;> cases e0
      rename_i hlast
      obtain ⟨vs, g1, g2⟩ := cc
      have hy : ds[ds.length - 1]? = some y := by rw [← List.getLast?_eq_getElem?]; exact hlast
      obtain ⟨w, w1, w2⟩ := g2.get hy
      refine ⟨app_at r1.toRelS hx (by simp [resolve, e1, isLst]), a, vs, w, rfl, rfl, g1, by rw [← g2.length]; exact w1, ?_⟩
      obtain ⟨r5, x5⟩ := r1.write (o := .lst vs.dropLast) (d' := .lst ds.dropLast) ea e1 fun W' H' sp ho => ⟨_, ho, by
        rw [List.dropLast_eq_take, List.dropLast_eq_take, ← g2.length]
        exact (sp.reps _ _ g2).take _⟩
      cases e9 : setTg (.tup us) y env with
      | none => rw [e9] at q; exact (show False from q).elim
      | some env' =>
        rw [e9] at q
        have hres : ∀ st : Store, resolve st y = y := fun st => by
          cases w : y <;> first | rfl | (rw [w] at w2; simp [Rep] at w2)
        exact ⟨U, ρ1, env, _, y, env', r5, VRel.of (x5.step.rep _ _ w2), by simp only [hres]; exact e9, fun σ' r' _ => q _ _ r5.toRelS x5 σ' r'⟩
theorem rs_expr {e : Ex} (h : RS K B E cf (.expr e) Dn σ H) : tDrop (RE K B (WE1 E) cf e) Dn σ H := by
  obtain ⟨U, ρ, env, st, r, q⟩ := h
  simp only [evS] at q
  exact RE.first r q fun x ρ1 st1 H1 vx r1 x1 hx q => q.here r1.toRelS σ r1
theorem rs_ret {e : Ex} (h : RS K B E cf (.ret e) Dn σ H) : tRet (RE K B (WE1 E) cf e) Dn σ H := by
  obtain ⟨U, ρ, env, st, r, q⟩ := h
  simp only [evS] at q
  exact RE.first r q fun x ρ1 st1 H1 vx r1 x1 hx q => q.here r1.toRelS vx hx
theorem rs_retN (h : RS K B E cf .retN Dn σ H) : tRetN Dn σ H := by
  obtain ⟨U, ρ, env, st, r, q⟩ := h
  simp only [evS] at q
  exact q.here r.toRelS .non (VRel.of rep_non)
theorem rs_brk (h : RS K B E cf .brk Dn σ H) : tBreak Dn σ H := by
  obtain ⟨U, ρ, env, st, r, q⟩ := h
  simp only [evS] at q
  exact q.here r.toRelS σ r
theorem rs_cont (h : RS K B E cf .cont Dn σ H) : tCont Dn σ H := by
  obtain ⟨U, ρ, env, st, r, q⟩ := h
  simp only [evS] at q
  exact q.here r.toRelS σ r
theorem rs_pass (h : RS K B E cf .pass Dn σ H) : tNext Dn σ H := by
  obtain ⟨U, ρ, env, st, r, q⟩ := h
  simp only [evS] at q
  exact q.here r.toRelS σ r
theorem rs_bad (h : RS K B E cf .bad Dn σ H) : tNever Dn σ H := by
  obtain ⟨U, ρ, env, st, r, q⟩ := h
  simp only [evS] at q
  exact q
theorem rs_ite {c : Ex} {a b : Sm} (h : RS K B E cf (.ite c a b) Dn σ H) : tIfS (RT K B (WE1 E) cf c) (RS K B E cf a) (RS K B E cf b) Dn σ H := by
  obtain ⟨U, ρ, env, st, r, q⟩ := h
  simp only [evS] at q
  refine ⟨U, ρ, env, st, r, q.bind.mono fun d ρ1 st1 H1 _ s x q => ?_⟩
  cases e : truth (resolve st1 d) with
  | none => rw [e] at q; exact (show False from q).elim
  | some kk =>
    rw [e] at q
    refine ⟨kk, rfl, ?_⟩
    cases kk with
    | true => rw [if_pos rfl]; exact ⟨U, ρ1, env, st1, r.ext s x, q⟩
    | false => rw [if_neg Bool.false_ne_true]; exact ⟨U, ρ1, env, st1, r.ext s x, q⟩
theorem rs_for {tg src : Ex} {b : Sm} (htg : (∃ i, tg = .var i) ∨ ∃ us, tg = .tup us) (h : RS K B E cf (.for tg src b) Dn σ H) : tFor (RI K B (WE1 E) cf src) (RG K B tg) (RS K B E cf b) Dn σ H := by
  obtain ⟨U, ρ, env, st, r, q⟩ := h
  simp only [evS] at q
  refine ⟨U, ρ, env, st, r, q.bind.mono fun l ρ1 st1 H1 _ s1 x1 q J hJ => ?_⟩
  have r1 := r.ext s1 x1
  refine ⟨fun i m σ Hc => i + m = l.length ∧ ∃ ρi sti env, Rel K B.fa U ρi env sti σ Hc ∧ Step (Wu U ρ1 st1) H1 (Wu U ρi sti) Hc ∧ Post K B U (WE1 E) σ ρi sti Hc (forL (fun x env st => match setTg tg x env with | some env' => evS cf b env' st | .none => .stuck) (l.drop i) env sti) (FlC K B U Dn), ⟨l.length, by omega, ρ1, st1, env, r1, Grow.refl.step, q⟩, fun i m σ Hc hW => ?_⟩
  obtain ⟨him, ρi, sti, env, ri, sp, q⟩ := hW
  obtain ⟨hstop, hgo⟩ := hJ _ _ sp ri.toRelS.wu_some
  by_cases hi : l.length ≤ i
  · left
    refine ⟨hstop i hi, ?_⟩
    rw [List.drop_eq_nil_of_le hi] at q
    exact Post.here (C := FlC K B U Dn) ri.toRelS q σ ri
  · right
    have hi' : i < l.length := by omega
    obtain ⟨hg, hy⟩ := hgo i l[i] (List.getElem?_eq_getElem hi')
    rw [List.drop_eq_getElem_cons hi'] at q
    refine ⟨hg, fun σ H' => ∃ ρi sti env, Rel K B.fa U ρi env sti σ H' ∧ Step (Wu U ρ1 st1) H1 (Wu U ρi sti) H' ∧ Post K B U (WE1 E) σ ρi sti H' (forL (fun x env st => match setTg tg x env with | some env' => evS cf b env' st | .none => .stuck) (l.drop (i + 1)) env sti) (FlC K B U Dn), fun σ' H' hN => ⟨l.length - (i + 1), by omega, by omega, hN⟩, fun x H' hy' => ?_⟩
    obtain ⟨gr, hx⟩ := hy x H' hy'
    have ri' := ri.grow gr
    have q2 := Post.shift (gr.ext (ρ := ρi) (st := sti)) q
    simp only [forL] at q2
    cases k : setTg tg l[i] env with
    | none => rw [k] at q2; exact (show False from q2).elim
    | some env' =>
      rw [k] at q2
      have hres : resolve sti l[i] = l[i] := by
        cases w : l[i] <;> first | rfl | (rw [w] at hx; simp [Rep] at hx)
      refine ⟨U, ρi, env, sti, l[i], env', ri', VRel.of hx, ?_, fun σ2 r2 w2 => ?_⟩
      · rcases htg with ⟨j, rfl⟩ | ⟨us, rfl⟩
        · exact setTg_var k
        · simp only [hres]
          exact k
      · refine ⟨U, ρi, env', sti, r2, post_any (q2.bind.mono fun fl ρ5 st5 H5 _ s5 x5 q => ?_)⟩
        have sp5 : Step (Wu U ρ1 st1) H1 (Wu U ρ5 st5) H5 := sp.trans (((gr.ext (ρ := ρi) (st := sti)).trans x5).step (U := U))
        cases fl with
        | nx env5 => exact fun σ' r' => ⟨ρ5, st5, env5, r', sp5, post_any q⟩
        | ct env5 => exact fun σ' r' => ⟨ρ5, st5, env5, r', sp5, post_any q⟩
        | bk env5 => exact Post.here (C := FlC K B U Dn) s5 q
        | rt d => exact Post.here (C := FlC K B U Dn) s5 q
theorem rs_while {c : Ex} {b : Sm} (h : RS K B E cf (.whil c b) Dn σ H) : tWhile (RT K B (WE1 E) cf c) (RS K B E cf b) Dn σ H := by
  obtain ⟨U, ρ, env, st, r, q⟩ := h
  simp only [evS] at q
  generalize fuel = fu at q
  refine ⟨fun m σ Hc => ∃ ρi sti env, Rel K B.fa U ρi env sti σ Hc ∧ Post K B U (WE1 E) σ ρi sti Hc (whL (fun env st => (evE cf c env st).bind fun x st => opt st (truth (resolve st x))) (evS cf b) m env sti) (FlC K B U Dn), ⟨fu, ρ, st, env, r, q⟩, fun m σ Hc hW => ?_⟩
  obtain ⟨ρi, sti, env, ri, q⟩ := hW
  cases m with
  | zero => exact (show False from q).elim
  | succ m =>
    simp only [whL] at q
    rw [bind_assoc] at q
    refine ⟨U, ρi, env, sti, ri, q.bind.mono fun d ρ1 st1 H1 _ s x q => ?_⟩
    have r1 := ri.ext s x
    cases e : truth (resolve st1 d) with
    | none => rw [e] at q; exact (show False from q).elim
    | some kk =>
      rw [e] at q
      refine ⟨kk, rfl, ?_⟩
      cases kk with
      | false => rw [if_neg Bool.false_ne_true]; exact Post.here (C := FlC K B U Dn) s q σ r1
      | true =>
        rw [if_pos rfl]
        refine ⟨fun σ' H' => ∃ ρi sti env, Rel K B.fa U ρi env sti σ' H' ∧ Post K B U (WE1 E) σ' ρi sti H' (whL (fun env st => (evE cf c env st).bind fun x st => opt st (truth (resolve st x))) (evS cf b) m env sti) (FlC K B U Dn), fun σ' H' hN => ⟨m, by omega, hN⟩, U, ρ1, env, st1, r1, ?_⟩
        have q2 : Post K B U (WE1 E) σ ρ1 st1 H1 ((evS cf b env st1).bind fun fl st => match fl with | .nx env' => whL (fun env st => (evE cf c env st).bind fun x st => opt st (truth (resolve st x))) (evS cf b) m env' st | .ct env' => whL (fun env st => (evE cf c env st).bind fun x st => opt st (truth (resolve st x))) (evS cf b) m env' st | .bk env' => .ok (.nx env') st | .rt d => .ok (.rt d) st) (FlC K B U Dn) := q
        refine q2.bind.mono fun fl ρ5 st5 H5 _ s5 x5 q => ?_
        cases fl with
        | nx env5 => exact fun σ' r' => ⟨ρ5, st5, env5, r', post_any q⟩
        | ct env5 => exact fun σ' r' => ⟨ρ5, st5, env5, r', post_any q⟩
        | bk env5 => exact Post.here (C := FlC K B U Dn) s5 q
        | rt d => exact Post.here (C := FlC K B U Dn) s5 q
end
end Py
end
section
set_option Elab.async false
set_option linter.all false
set_option maxRecDepth 100000
set_option maxHeartbeats 4000000
namespace Py
open PySem L2
/-! ### statements: terms and trees -/
def fT : Str → Bool := fun _ => true
def isComp : Ex → Bool
  | .comp _ _ _ _ _ => true
  | _ => false
def noCompB : Expr → Bool
  | .ListComp _ _ _ _ => false
  | .SetComp _ _ _ _ => false
  | .DictComp _ _ _ _ _ => false
  | _ => true
/-- the store of a comprehension takes the name's old value away with it -/
def swB (sc : Scope) (v : Expr) (x : Str) (px : Pos) : Bool :=
  match v with
  | .ListComp _ _ s p => (List.lookup x sc.names == some NameKind.local) && ((px.line == p.line) && !s.names.any fun y => y.1 == x && (y.2 == NameKind.local || y.2 == NameKind.cell))
  | .SetComp _ _ _ _ => true
  | .DictComp _ _ _ _ _ => true
  | _ => false
/-- a target that is no local name: the stores are not swapped -/
def noSwap (sc : Scope) (ts : List Expr) : Bool := ts.any fun t => match t with
  | .Name x _ => !lkB sc x .local
  | _ => true
def setB (sc : Scope) (e : Ex) (t v : Expr) : Bool :=
  match t with
  | .Name x px => !swB sc v x px || isComp e
  | .Tuple ts _ _ => (match v with
    | .Tuple vs _ _ => vs.all (foldedForSure 8) || noSwap sc ts
    | _ => true)
  | _ => false
def newB (sc : Scope) (e : Ex) (t v : Expr) : Bool :=
  match t with
  | .Name x px => !swB sc v x px || isComp e
  | _ => false
def parB (N : List Str) (sc : Scope) (i j : Nat) (x y : Str) (px py : Pos) (a b : Expr) : Bool :=
  decide (N[i]? = some x) && (decide (N[j]? = some y) && (decide (i ≠ j) && (lkB sc x .local && (lkB sc y .local && ((px.line == py.line) && ((x != y) && (!([a, b].all (foldedForSure 8)) && (!([a, b].all (constantsAlone 8)) && (noStar a && noStar b)))))))))
mutual
def agS (tx : Tx) (N : List Str) : Sm → Scope → List Stmt → Bool
  | .nil, _, ss => ss.isEmpty
  | .seq s r, sc, ss => match ss with
    | [] => false
    | st :: rest => agT tx N s sc st && agS tx N r sc rest
  | _, _, _ => false
def agT (tx : Tx) (N : List Str) : Sm → Scope → Stmt → Bool
  | .bad, _, _ => true
  | .set tg e, sc, .Assign ts v _ => match ts with
    | [t] => agTg N sc fT tg t && (setB sc e t v && agE tx N e sc fT false v)
    | _ => false
  | .new i e, sc, .Assign ts v _ => match ts with
    | [t] => agTg N sc fT (.var i) t && (newB sc e t v && (newE e && agE tx N e sc fT false v))
    | _ => false
  | .par i ni j nj a b, sc, .Assign ts v _ => match ts, v with
    | [.Tuple [.Name x px, .Name y py] _ _], .Tuple [va, vb] _ _ => parB N sc i j x y px py va vb && ((!ni || newE a) && ((!nj || newE b) && (agE tx N a sc fT false va && agE tx N b sc fT false vb)))
    | _, _ => false
  | .setIx c ix e, sc, .Assign ts v _ => match ts with
    | [.Subscript o i _] => plainB i && (agE tx N c sc fT false o && (agE tx N ix sc fT false i && agE tx N e sc fT false v))
    | _ => false
  | .popTo i c, sc, .Assign ts v _ => match ts, v with
    | [t], .Call (.Attribute o m apos) [] [] cpos => agTg N sc fT (.var i) t && (isS m "pop" && (noCallB o && ((apos.endLine == cpos.line) && agE tx N c sc fT false o)))
    | _, _ => false
  | .popTg tg c, sc, .Assign ts v _ => match ts, v with
    | [t], .Call (.Attribute o m apos) [] [] cpos => isTupE t && (agTg N sc fT tg t && (isS m "pop" && (noCallB o && ((apos.endLine == cpos.line) && agE tx N c sc fT false o))))
    | _, _ => false
  | .aug i op e, sc, .AugAssign t op' v _ => agTg N sc fT (.var i) t && (boOp op op' && agE tx N e sc fT false v)
  | .augIx c ix op e, sc, .AugAssign t op' v _ => match t with
    | .Subscript o i _ => plainB i && (boOp op op' && (agE tx N c sc fT false o && (agE tx N ix sc fT false i && agE tx N e sc fT false v)))
    | _ => false
  | .app c e, sc, .Expr v _ => match v with
    | .Call (.Attribute o m apos) [a] [] cpos => isS m "append" && (noCallB o && ((apos.endLine == cpos.line) && (noStar a && (agE tx N c sc fT false o && agE tx N e sc fT false a))))
    | _ => false
  | .ext c e, sc, .Expr v _ => match v with
    | .Call (.Attribute o m apos) [a] [] cpos => isS m "extend" && (noCallB o && ((apos.endLine == cpos.line) && (noStar a && (agE tx N c sc fT false o && agE tx N e sc fT false a))))
    | _ => false
  | .expr e, sc, .Expr v _ => noCompB v && agE tx N e sc fT false v
  | .ret e, sc, .Return v _ => match v with
    | some v => agE tx N e sc fT false v
    | none => false
  | .retN, _, .Return v _ => v.isNone
  | .ite c a b, sc, .If t p q _ => tsB c && (agE tx N c sc fT false t && (agS tx N a sc p && agS tx N b sc q))
  | .for tg src b, sc, .For t it p q _ => (!enI src || isTupE t) && agTg N sc fT tg t && (noSetB it && (agE tx N src sc fT true it && (agS tx N b sc p && q.isEmpty)))
  | .whil c b, sc, .While t p q _ => tsB c && (agE tx N c sc fT false t && (agS tx N b sc p && q.isEmpty))
  | .brk, _, .Break _ => true
  | .cont, _, .Continue _ => true
  | .pass, _, .Pass _ => true
  | _, _, _ => false
end
section
variable {B : Tab} {tx : Tx} {k : Nat} {N : List Str}
structure SOK (B : Tab) (tx : Tx) (k : Nat) (N : List Str) (scp : Scope) (E : XK) (X : Cx) : Prop extends XOK B tx k N scp fT (WE1 E) X where
  kind : scp.kind = ScopeKind.function
  po : PassesOwn (model X.prog X.w) X.A X.env X.xe
variable {sc : Scope} {E : XK} {X : Cx}
theorem SOK.bk (h : SOK B tx k N sc E X) : X.env.blockKind = ScopeKind.function := by
  have : X.env.scope.kind = .function := by rw [h.sc]; exact h.kind
  simp only [PySem.Env.blockKind, this]
  try rfl
theorem sw_no (h : SOK B tx k N sc E X) {v : Expr} {x : Str} {px : Pos} {l : Nat} (e : swB sc v x px = false) : swapsWith v (some (.Name x px)) l X.env = pure false := by
  have bk := h.bk
  have hs := h.sc
  cases v <;> simp only [swB] at e <;> first
    | rfl
    | (cases e; done)
    | (simp only [swapsWith, bk]
       have e' := e
       rw [← hs] at e'
       simp only [PySem.Env.kindOf]
       have : ∀ (a b c d : Bool), (b && (c && d)) = false → (a && b && c && d) = false := by decide
       exact congrArg pure (this _ _ _ _ e'))
theorem sw_yes (h : SOK B tx k N sc E X) {elt : Expr} {gs : List Comprehension} {s : Scope} {p : Pos} {x : Str} {px : Pos} {l : Nat} (e : swB sc (.ListComp elt gs s p) x px = true) : swapsWith (.ListComp elt gs s p) (some (.Name x px)) l X.env = pure true := by
  have bk := h.bk
  simp only [swB] at e
  rw [← h.sc] at e
  simp only [swapsWith, bk]
  simp only [PySem.Env.kindOf]
  show pure (_ && _ && _ && _) = _
  have : ∀ (b c d : Bool), (b && (c && d)) = true → (true && b && c && d) = true := by decide
  exact congrArg pure (this _ _ _ e)
theorem sw_other {v : Expr} {t : Expr} {l : Nat} {env : PySem.Env} (h : match t with | .Name _ _ => False | _ => True) : swapsWith v (some t) l env = pure false := by
  cases v <;> cases t <;> first | rfl | (exact h.elim)
theorem sst_none {ts : List Expr} {v : Expr} {env : PySem.Env} (h : match v with | .Tuple vs _ _ => vs.all (foldedForSure 8) = true | _ => True) : swappedStores ts v env = pure none := by
  cases v with
  | Tuple vs k p =>
    unfold swappedStores
    split
    · split
      · rfl
      · split
        · rfl
        · simp only
          split
          · rfl
          · rename_i ts' vs' e _ _ _
            have hv : vs' = vs := by
              split at e
              · cases e; rename_i q; cases q; rfl
              · cases e; rename_i q; cases q; rfl
              · cases e
            subst hv
            have h' : vs'.all (foldedForSure 8) = true := h
            rw [if_pos h']
    · rfl
  | _ =>
    unfold swappedStores
    split
    · rename_i e
      split at e <;> first | (cases e; done) | (rename_i q; cases q)
    · rfl
theorem fm_lt {α β : Type} (f : α → Option β) : ∀ {l : List α} {a : α}, a ∈ l → f a = none → (l.filterMap f).length < l.length
  | x :: xs, a, h, e => by
    rcases List.mem_cons.mp h with rfl | h
    · rw [List.filterMap_cons_none e]
      exact Nat.lt_succ_of_le (List.length_filterMap_le _ _)
    · have ih := fm_lt f h e
      cases k : f x with
      | none => rw [List.filterMap_cons_none k]; exact Nat.lt_succ_of_lt ih
      | some y => rw [List.filterMap_cons_some k]; exact Nat.succ_lt_succ ih
theorem sst_no (h : SOK B tx k N sc E X) {ts : List Expr} {v : Expr} {kk : Nat} {p : Pos} (c : match v with | .Tuple vs _ _ => (vs.all (foldedForSure 8) || noSwap sc ts) = true | _ => True) : swappedStores [.Tuple ts kk p] v X.env = pure none := by
  cases v with
  | Tuple vs k2 p2 =>
    have c : (vs.all (foldedForSure 8) || noSwap sc ts) = true := c
    rw [Bool.or_eq_true] at c
    rcases c with c | c
    · exact sst_none c
    · unfold swappedStores
      simp only
      split
      · rfl
      · split
        · rfl
        · obtain ⟨t, ht, e⟩ := List.any_eq_true.mp c
          have lt := fm_lt (fun (x : Expr) => match x with
            | .Name id pos => if (X.env.kindOf id == some NameKind.local && pos.line == (ts.head?.map (·.pos.line)).getD 0) = true then some id else none
            | _ => none) ht (by
              cases t with
              | Name x px =>
                have e : (!lkB sc x .local) = true := e
                have : X.env.kindOf x ≠ some NameKind.local := fun z => by
                  have z2 : List.lookup x X.env.scope.names = some NameKind.local := z
                  rw [h.sc] at z2
                  simp [lkB, z2] at e
                simp [this]
              | _ => rfl)
          rw [if_pos]
          simp only [Bool.or_eq_true, bne_iff_ne, ne_eq]
          left
          exact Nat.ne_of_lt lt
  | _ => exact sst_none trivial
theorem fm2 {α β : Type} (f : α → Option β) {a b : α} {x y : β} (h1 : f a = some x) (h2 : f b = some y) : [a, b].filterMap f = [x, y] := by simp [List.filterMap_cons, h1, h2]
theorem ed2 {x y : Str} (h : x ≠ y) : ([x, y] : List Str).eraseDups = [x, y] := by
  have e : (y == x) = false := by simp [Ne.symm h]
  rw [List.eraseDups_cons]
  simp [List.filter, e, List.eraseDups_cons, List.eraseDups_nil]
theorem sst_par (h : SOK B tx k N sc E X) {i j : Nat} {x y : Str} {px py : Pos} {a b : Expr} {kt k2 : Nat} {pt pt2 : Pos} (p : parB N sc i j x y px py a b = true) :
    N[i]? = some x ∧ N[j]? = some y ∧ i ≠ j ∧ List.lookup x X.env.scope.names = some NameKind.local ∧ List.lookup y X.env.scope.names = some NameKind.local ∧ noStar a = true ∧ noStar b = true ∧
    swappedStores [.Tuple [.Name x px, .Name y py] kt pt] (.Tuple [a, b] k2 pt2) X.env = pure (some [x, y]) := by
  have bk := h.bk
  simp only [parB, Bool.and_eq_true, decide_eq_true_eq, lkB, Bool.not_eq_true', bne_iff_ne] at p
  obtain ⟨h1, h2, h3, h4, h5, h6, h7, h8, h9, h10, h11⟩ := p
  rw [← h.sc] at h4 h5
  refine ⟨h1, h2, h3, h4, h5, h10, h11, ?_⟩
  have k1 : X.env.kindOf x = some NameKind.local := h4
  have k2 : X.env.kindOf y = some NameKind.local := h5
  have hl : (py.line == px.line) = true := by rw [beq_iff_eq] at h6 ⊢; exact h6.symm
  have e1 : (if (X.env.kindOf x == some NameKind.local && px.line == px.line) = true then some x else none) = some x := by
    rw [if_pos]
    rw [k1]
    simp
  have e2 : (if (X.env.kindOf y == some NameKind.local && py.line == px.line) = true then some y else none) = some y := by
    rw [if_pos]
    rw [k2, hl]
    simp
  unfold swappedStores
  simp only [bk, List.length_cons, List.length_nil, List.head?_cons, Option.map_some, Option.getD_some]
  rw [if_neg (by decide), if_neg (by cases a <;> cases b <;> first | exact Bool.false_ne_true | (simp [noStar] at h10; done) | (simp [noStar] at h11; done))]
  have pl : (Expr.Name x px).pos.line = px.line := rfl
  simp only [pl]
  rw [fm2 (x := x) (y := y)]
  · rw [ed2 h7, if_neg (by simp), h8, h9]
    try rfl
  · exact e1
  · exact e2
/-- a comprehension that is stored under a name -/
theorem comp_set (h : SOK B tx k N sc E X) {e : Ex} (hc : isComp e = true) {i : Nat} {x : Str} {px pos : Pos} {v : Expr} (hi : N[i]? = some x) (ag : agE tx N e sc fT false v = true) (sw : swB sc v x px = true) :
    PS X (.Assign [.Name x px] v pos) (tAsg (RE X.K B (WE1 E) (callF B.T k) e) (gName i)) ∧ PS X (.Assign [.Name x px] v pos) (tAsg (RN X.K B (WE1 E) (callF B.T k) e) (gName i)) := by
  cases e <;> simp only [isComp, Bool.false_eq_true] at hc
  rename_i elt own tg src c
  cases v <;> simp only [agE, Bool.false_eq_true] at ag
  rename_i e0 gs scope p
  have sy := sw_yes h (l := pos.line) sw
  split at ag
  case h_2 => cases ag
  rename_i t it ifs
  simp only [Bool.and_eq_true] at ag
  obtain ⟨a1, a2, ⟨a0, a3⟩, a4, a5, a6, a7⟩ := ag
  have hs : ∀ i ∈ slots tg, i ∈ own := by
    intro i hi
    simp only [slotsIn, List.all_eq_true, List.contains_iff_mem] at a2
    exact a2 i hi
  have ok : BlkOk X.N X.env.scope scope (ownOf N own) := by rw [h.hN, h.sc]; exact blkOk_by a1
  have nd : X.N.Nodup := by rw [h.hN]; exact h.nd
  have ptt : ∃ tt : TT, (∀ σ H Q, RT X.K B (fun _ _ _ _ => False) (callF B.T k) c σ H Q → tt σ H Q) ∧ ∀ (s : Shared) (H : Hp) (C : Addr) (cl : List (Str × Addr)) (fp : List Addr), PTs (X.blk s H scope (compEnvC scope cl C X.env) fp) ifs tt := by
    split at a7
    · refine ⟨tYes, fun σ H Q q => ?_, fun _ _ _ _ _ => pts_nil⟩
      have : c = .cst (.bl true) := by
        unfold isCT at a7
        split at a7
        · rfl
        · cases a7
      subst this
      obtain ⟨U, ρ, env, st, r, q⟩ := q
      simp only [evE] at q
      obtain ⟨b, e1, q⟩ := q.here r.toRelS
      cases e1
      exact q
    · simp only [Bool.and_eq_true] at a7
      exact ⟨RT X.K B (fun _ _ _ _ => False) (callF B.T k) c, fun _ _ _ q => q, fun s H C cl fp => pts_one (sndT c (h.blk s H C cl fp scope) _ a7.1 a7.2).1⟩
    · cases a7
  obtain ⟨tt, ht, pt⟩ := ptt
  have loc : List.lookup x X.env.scope.names = some NameKind.local := by
    simp only [swB, Bool.and_eq_true] at sw
    rw [h.sc]
    have := sw.1
    revert this
    cases List.lookup x sc.names with
    | none => intro z; cases z
    | some kk => cases kk <;> intro z <;> first | rfl | (cases z)
  have pp := ps_setLc (i := i) (py := px) (spos := pos) (own := ownOf N own) (pos := p) (g := RG X.K B tg) (tt := tt) (te := RE X.K B (fun _ _ _ _ => False) (callF B.T k) elt) h.calm nd (by rw [h.hN]; exact hi) loc sy (sndE src h.toXOK true _ a5 t a0) ok (fun s H C cl fp => sndG (h.blk s H C cl fp scope) tg t a3) pt (fun s H C cl fp => (sndE elt (h.blk s H C cl fp scope) false _ a6).1) (set_ok a4 X.env)
  rw [own_snd] at pp
  exact ⟨pp.imp fun D σ H q => re_comp hs (tg_kind a3) ht q, pp.imp fun D σ H q => rn_comp hs (tg_kind a3) ht q⟩
theorem pip_of {op : Operator} {r : R2} (h : OpR X (inplaceOp op) r) : PIp X op r := fun pins s σ H x y v u Q I rx ry q => h pins s σ H x y v u Q I rx ry q
theorem rg_of_name {K : Frg} {i : Nat} {e : Ex} {D : Ends} {σ : L2.St} {H : Hp} {te : TE} {n : Nat} (hn : i < n) (hl : σ.length = n) (q : tAsg te (RG K B (.var i)) D σ H) (mono : ∀ (R R' : V → Hp → Prop), (∀ v H, R v H → R' v H) → te σ H R → te σ H R') : tAsg te (gName i) D σ H :=
  mono _ _ (fun v H q => rg_name hn hl q) q
end
end Py
end
section
set_option Elab.async false
set_option linter.all false
set_option maxRecDepth 100000
set_option maxHeartbeats 4000000
namespace Py
open PySem L2
section
variable {B : Tab} {tx : Tx} {k : Nat} {N : List Str} {sc : Scope} {E : XK} {X : Cx}
theorem var_tg (h : SOK B tx k N sc E X) {i : Nat} {t : Expr} (a : agTg N sc fT (.var i) t = true) : ∃ x px, t = .Name x px ∧ X.N[i]? = some x ∧ N[i]? = some x ∧ L2.Loc X.env.scope x ∧ (X.fn x = true ∨ List.lookup x X.env.scope.names = some NameKind.local) ∧ i < X.N.length := by
  cases t <;> simp only [agTg, Bool.false_eq_true, Bool.and_eq_true, Bool.or_eq_true, decide_eq_true_eq, lkB] at a
  rename_i x p
  obtain ⟨a1, a2⟩ := a
  have hi : X.N[i]? = some x := by rw [h.hN]; exact a1
  refine ⟨x, p, rfl, hi, a1, ?_, ?_, (List.getElem?_eq_some_iff.mp hi).1⟩
  · rw [h.sc]
    rcases a2 with a2 | a2
    · exact .inr a2.1
    · exact .inl a2
  · rw [h.sc]
    rcases a2 with a2 | a2
    · exact .inl (h.fn x a2.2)
    · exact .inr a2
theorem sole_tup {v : Expr} {es : List Expr} {kk l : Nat} {p : Pos} {env : PySem.Env} : swapsWithSole [.Tuple es kk p] v l env = pure false := by cases v <;> rfl
theorem sole_sub {v o i : Expr} {l : Nat} {p : Pos} {env : PySem.Env} : swapsWithSole [.Subscript o i p] v l env = pure false := by cases v <;> rfl
theorem aug_sub {i : Expr} (h : plainB i = true) (ov iv new : Value) : augStore i ov iv new = (do
    holding [new, ov, iv] (setItem ov iv new)
    release [new, ov, iv] []
    pure .next) := by
  cases i <;> first | rfl | (simp [plainB] at h)
theorem assign_sub {o i : Expr} {p : Pos} {env : PySem.Env} (h : plainB i = true) (v : Value) : assign (o.Subscript i p) env v = (do
    let ov ← holding [v] (eval o env)
    let iv ← holding [v, ov] (eval i env)
    standAt p
    holding [v, ov, iv] (setItem ov iv v)
    release [v, ov, iv] []) := by
  cases i <;> first | rfl | (simp [plainB] at h)
theorem nd (h : SOK B tx k N sc E X) : X.N.Nodup := by rw [h.hN]; exact h.nd
theorem post_setv {K : Frg} {U : Addr → Prop} {ρ : List Addr} {env : Env} {st : Store} {σ : L2.St} {H : Hp} {i n : Nat} {d : D} {v : V} {Dn : Ends} (hn : i < n) (hl : σ.length = n) (r : Rel K B.fa U ρ env st σ H) (hv : VRel K B.fa ρ (Wu U ρ st) H d v) (q : Post K B U (WE1 E) σ ρ st H (.ok (.nx (env.set i (some d))) st) (FlC K B U Dn)) : gName i v σ H Dn.nx :=
  Post.here (C := FlC K B U Dn) r.toRelS q _ (r.setv (by omega) hv)
/-- x = e for a name -/
theorem rs_setN {K : Frg} {cf : CallF} {i n : Nat} {e : Ex} {Dn : Ends} {σ : L2.St} {H : Hp} (hn : i < n) (hl : σ.length = n) (h : RS K B E cf (.set (.var i) e) Dn σ H) : tAsg (RE K B (WE1 E) cf e) (gName i) Dn σ H := by
  obtain ⟨U, ρ, env, st, r, q⟩ := h
  simp only [evS] at q
  exact RE.first r q fun d ρ1 st1 H1 v r1 x1 hv q => post_setv hn hl r1 hv q
theorem px_of (h : SOK B tx k N sc E X) {n : Bool} {e : Ex} {v : Expr} (hn : (!n || newE e) = true) (ag : agE tx N e sc fT false v = true) : PE X v (RX X.K B E (callF B.T k) n e) := by
  have p := sndE e h.toXOK false v ag
  cases n with
  | false => exact p.1
  | true => exact p.2 (by simpa using hn)
mutual
theorem sndSs (h : SOK B tx k N sc E X) : ∀ (s : Sm) (ss : List Stmt), agS tx N s sc ss = true → PSs X ss (RS X.K B E (callF B.T k) s)
  | .nil, ss, a => by
    simp only [agS, List.isEmpty_iff] at a
    subst a
    exact pss_nil.imp fun D σ H q => rs_nil q
  | .seq s r, ss, a => by
    cases ss with
    | nil => simp [agS] at a
    | cons st rest =>
      simp only [agS, Bool.and_eq_true] at a
      exact (pss_cons (sndS h s st a.1) (sndSs h r rest a.2)).imp fun D σ H q => rs_seq q
  | .set _ _, ss, a => by simp [agS] at a
  | .new _ _, ss, a => by simp [agS] at a
  | .setIx _ _ _, ss, a => by simp [agS] at a
  | .par _ _ _ _ _ _, ss, a => by simp [agS] at a
  | .aug _ _ _, ss, a => by simp [agS] at a
  | .augIx _ _ _ _, ss, a => by simp [agS] at a
  | .app _ _, ss, a => by simp [agS] at a
  | .ext _ _, ss, a => by simp [agS] at a
  | .popTo _ _, ss, a => by simp [agS] at a
  | .popTg _ _, ss, a => by simp [agS] at a
  | .expr _, ss, a => by simp [agS] at a
  | .ret _, ss, a => by simp [agS] at a
  | .retN, ss, a => by simp [agS] at a
  | .ite _ _ _, ss, a => by simp [agS] at a
  | .for _ _ _, ss, a => by simp [agS] at a
  | .whil _ _, ss, a => by simp [agS] at a
  | .brk, ss, a => by simp [agS] at a
  | .cont, ss, a => by simp [agS] at a
  | .pass, ss, a => by simp [agS] at a
  | .bad, ss, a => by simp [agS] at a
  | .rais _ _, ss, a => by simp [agS] at a
  | .tryc _ _ _ _, ss, a => by simp [agS] at a
theorem sndS (h : SOK B tx k N sc E X) : ∀ (s : Sm) (st : Stmt), agT tx N s sc st = true → PS X st (RS X.K B E (callF B.T k) s)
  | .bad, st, a => ps_never.imp fun D σ H q => rs_bad q
  | .set tg e, st, a => by
    cases st <;> simp only [agT, Bool.false_eq_true] at a
    rename_i ts v pos
    match ts, a with
    | [t], a =>
      simp only [Bool.and_eq_true] at a
      obtain ⟨a1, a2, a3⟩ := a
      have pe := (sndE e h.toXOK false v a3).1
      rcases tg_kind a1 with ⟨i, rfl⟩ | ⟨us, rfl⟩
      · obtain ⟨x, px, rfl, hi, hi', hx, hf, hn⟩ := var_tg h a1
        cases sw : swB sc v x px with
        | false => exact (ps_set (nd h) hi hx pe (sw_no h sw) hf).impI fun D σ H hl q => rs_setN hn hl q
        | true =>
          have hc : isComp e = true := by simpa [setB, sw] using a2
          exact (comp_set h hc hi' a3 sw).1.impI fun D σ H hl q => rs_setN hn hl q
      · cases t <;> simp only [agTg, Bool.false_eq_true] at a1
        rename_i es kk tp
        have tup : agTg N sc fT (.tup us) (.Tuple es kk tp) = true := a1
        refine (ps_asg pe (sndG h.toXOK (.tup us) _ tup) sole_tup (sst_no h ?_) (by rfl)).imp fun D σ H q => rs_set q
        simp only [setB] at a2
        cases v <;> first | trivial | exact a2
  | .new i e, st, a => by
    cases st <;> simp only [agT, Bool.false_eq_true] at a
    rename_i ts v pos
    match ts, a with
    | [t], a =>
      simp only [Bool.and_eq_true] at a
      obtain ⟨a1, a2, a3, a4⟩ := a
      obtain ⟨x, px, rfl, hi, hi', hx, hf, hn⟩ := var_tg h a1
      cases sw : swB sc v x px with
      | false => exact (ps_set (nd h) hi hx ((sndE e h.toXOK false v a4).2 a3) (sw_no h sw) hf).impI fun D σ H hl q => rs_new hn hl q
      | true =>
        have hc : isComp e = true := by simpa [newB, sw] using a2
        exact (comp_set h hc hi' a4 sw).2.impI fun D σ H hl q => rs_new hn hl q
  | .par i ni j nj va vb, st, a => by
    cases st <;> simp only [agT, Bool.false_eq_true] at a
    split at a
    case h_2 => cases a
    simp only [Bool.and_eq_true] at a
    obtain ⟨a1, a2, a3, a4, a5⟩ := a
    rename_i x px y py kt pt ea eb k2 pt2
    obtain ⟨h1, h2, h3, h4, h5, h6, h7, h8⟩ := sst_par (kt := kt) (k2 := k2) (pt := pt) (pt2 := pt2) h a1
    have pa := pa_cons (px_of h a2 a4) (pa_cons (px_of h a3 a5) pa_nil (star_ok h7 [] X.env)) (star_ok h6 _ X.env)
    have hi : X.N[i]? = some x := by rw [h.hN]; exact h1
    have hj : X.N[j]? = some y := by rw [h.hN]; exact h2
    exact (ps_par h.calm (nd h) hi hj h3 h4 h5 pa h8 sole_tup).impI fun D σ H hl q => rs_par (List.getElem?_eq_some_iff.mp hi).1 (List.getElem?_eq_some_iff.mp hj).1 hl q
  | .setIx c ix e, st, a => by
    cases st <;> simp only [agT, Bool.false_eq_true] at a
    split at a
    case h_2 => cases a
    simp only [Bool.and_eq_true] at a
    obtain ⟨a1, a2, a3, a4⟩ := a
    exact (ps_asg (sndE e h.toXOK false _ a4).1 (pg_sub (sndE c h.toXOK false _ a2).1 (sndE ix h.toXOK false _ a3).1 (set_any (by have := h.toXOK.hu; omega)) (assign_sub a1)) sole_sub (by rfl) (by rfl)).imp fun D σ H q => rs_setIx q
  | .popTo i c, st, a => by
    cases st <;> simp only [agT, Bool.false_eq_true] at a
    split at a
    case h_2 => cases a
    simp only [Bool.and_eq_true] at a
    obtain ⟨a1, a2, a3, a4, a5⟩ := a
    obtain ⟨x, px, rfl, hi, hi', hx, hf, hn⟩ := var_tg h a1
    obtain rfl := isS_eq a2
    exact (ps_set (nd h) hi hx (pe_bm0 PySem.F.plainAttrs_list PySem.F.slot_list_pop PySem.F.type_list_pop mt_pop (sndE c h.toXOK false _ a5).1 (base_ok a3 _ X.env) a4) (by rfl) hf).impI fun D σ H hl q => rs_popTo hn hl q
  | .popTg tg c, st, a => by
    cases st <;> simp only [agT, Bool.false_eq_true] at a
    split at a
    case h_2 => cases a
    rename_i t o m apos cpos
    simp only [Bool.and_eq_true] at a
    obtain ⟨a0, a1, a2, a3, a4, a5⟩ := a
    obtain rfl := isS_eq a2
    cases t <;> simp only [isTupE, Bool.false_eq_true] at a0
    rcases tg_kind a1 with ⟨i, rfl⟩ | ⟨us, rfl⟩
    · simp [agTg] at a1
    · exact (ps_asg (pe_bm0 PySem.F.plainAttrs_list PySem.F.slot_list_pop PySem.F.type_list_pop mt_pop (sndE c h.toXOK false _ a5).1 (base_ok a3 _ X.env) a4) (sndG h.toXOK (.tup us) _ a1) sole_tup (sst_none trivial) (by rfl)).imp fun D σ H q => rs_popTg q
  | .aug i op e, st, a => by
    cases st <;> simp only [agT, Bool.false_eq_true, Bool.and_eq_true] at a
    obtain ⟨a1, a2, a3⟩ := a
    obtain ⟨x, px, rfl, hi, hi', hx, hf, hn⟩ := var_tg h a1
    obtain rfl := boOp_eq a2
    exact (ps_aug (nd h) hi hx (sndE e h.toXOK false _ a3).1 (pip_of (op_ip op)) hf).impI fun D σ H hl q => rs_aug hn hl q
  | .augIx c ix op e, st, a => by
    cases st <;> simp only [agT, Bool.false_eq_true] at a
    split at a
    case h_2 => cases a
    simp only [Bool.and_eq_true] at a
    obtain ⟨a1, a2, a3, a4, a5⟩ := a
    obtain rfl := boOp_eq a2
    exact (ps_augS (sndE c h.toXOK false _ a3).1 (sndE ix h.toXOK false _ a4).1 get_lst (sndE e h.toXOK false _ a5).1 (pip_of (op_ip op)) (set_any (by have := h.toXOK.hu; omega)) (fun ov iv new => aug_sub a1 ov iv new)).imp fun D σ H q => rs_augIx q
  | .app c e, st, a => by
    cases st <;> simp only [agT, Bool.false_eq_true] at a
    split at a
    case h_2 => cases a
    simp only [Bool.and_eq_true] at a
    obtain ⟨a1, a2, a3, a4, a5, a6⟩ := a
    obtain rfl := isS_eq a1
    exact (ps_expr (pe_bm PySem.F.plainAttrs_list PySem.F.slot_list_append PySem.F.type_list_append mt_append (sndE c h.toXOK false _ a5).1 (pa_cons (sndE e h.toXOK false _ a6).1 pa_nil (star_ok a4 _ X.env)) (base_ok a2 _ X.env) (by rw [star_ok a4]; rfl) a3 (star_ok a4 _ X.env) (by rfl)) (by rfl)).imp fun D σ H q => rs_app q
  | .ext c e, st, a => by
    cases st <;> simp only [agT, Bool.false_eq_true] at a
    split at a
    case h_2 => cases a
    simp only [Bool.and_eq_true] at a
    obtain ⟨a1, a2, a3, a4, a5, a6⟩ := a
    obtain rfl := isS_eq a1
    exact (ps_expr (pe_bm PySem.F.plainAttrs_list PySem.F.slot_list_extend PySem.F.type_list_extend mt_extend (sndE c h.toXOK false _ a5).1 (pa_cons (sndE e h.toXOK false _ a6).1 pa_nil (star_ok a4 _ X.env)) (base_ok a2 _ X.env) (by rw [star_ok a4]; rfl) a3 (star_ok a4 _ X.env) (by rfl)) (by rfl)).imp fun D σ H q => rs_ext q
  | .expr e, st, a => by
    cases st <;> simp only [agT, Bool.false_eq_true, Bool.and_eq_true] at a
    rename_i v pos
    refine (ps_expr (sndE e h.toXOK false _ a.2).1 ?_).imp fun D σ H q => rs_expr q
    have a1 := a.1
    cases v <;> first | rfl | (simp [noCompB] at a1)
  | .ret e, st, a => by
    cases st <;> simp only [agT, Bool.false_eq_true] at a
    split at a
    · exact (ps_ret (sndE e h.toXOK false _ a).1).imp fun D σ H q => rs_ret q
    · cases a
  | .retN, st, a => by
    cases st <;> simp only [agT, Bool.false_eq_true, Option.isNone_iff_eq_none] at a
    subst a
    exact ps_retN.imp fun D σ H q => rs_retN q
  | .ite c p q, st, a => by
    cases st <;> simp only [agT, Bool.false_eq_true, Bool.and_eq_true] at a
    exact (ps_if (sndT c h.toXOK _ a.1 a.2.1).1 (sndSs h p _ a.2.2.1) (sndSs h q _ a.2.2.2)).imp fun D σ H q => rs_ite q
  | .for tg src b, st, a => by
    cases st <;> simp only [agT, Bool.false_eq_true, Bool.and_eq_true, List.isEmpty_iff] at a
    obtain ⟨⟨a0, a1⟩, a2, a3, a4, rfl⟩ := a
    rename_i t it p pos
    exact (ps_for h.po h.calm (sndE src h.toXOK true _ a3 t a0) (sndG h.toXOK tg _ a1) (sndSs h b _ a4) (set_ok a2 X.env)).imp fun D σ H q => rs_for (tg_kind a1) q
  | .whil c b, st, a => by
    cases st <;> simp only [agT, Bool.false_eq_true, Bool.and_eq_true, List.isEmpty_iff] at a
    obtain ⟨a1, a2, a3, rfl⟩ := a
    exact (ps_while h.po (sndT c h.toXOK _ a1 a2).1 (sndSs h b _ a3)).imp fun D σ H q => rs_while q
  | .brk, st, a => by
    cases st <;> simp only [agT, Bool.false_eq_true] at a
    exact ps_break.imp fun D σ H q => rs_brk q
  | .cont, st, a => by
    cases st <;> simp only [agT, Bool.false_eq_true] at a
    exact ps_continue.imp fun D σ H q => rs_cont q
  | .pass, st, a => by
    cases st <;> simp only [agT, Bool.false_eq_true] at a
    exact ps_pass.imp fun D σ H q => rs_pass q
  | .nil, st, a => by cases st <;> simp [agT] at a
  | .seq _ _, st, a => by cases st <;> simp [agT] at a
  | .rais _ _, st, a => by cases st <;> simp [agT] at a
  | .tryc _ _ _ _, st, a => by cases st <;> simp [agT] at a
end
end
end Py
end
section
set_option Elab.async false
set_option linter.all false
set_option maxRecDepth 100000
set_option maxHeartbeats 4000000
namespace Py
open PySem L2 PyProof.Rows
/-! ### defs -/
section
variable {K : Frg} {B : Tab} {U : Addr → Prop} {E : XK} {cf : CallF} {σ : L2.St} {H : Hp} {ρ : List Addr} {st : Store}
theorem start_rel (r : RelS K B.fa U ρ st H) {ds : List D} {vs : List V} (h : VRels K B.fa ρ (Wu U ρ st) H ds vs) (n : Nat) (N : List Str) : Rel K B.fa U ρ (Py.start n ds) st (L2.start N vs) H := by
  refine ⟨r, fun i d e => ?_⟩
  have hl := h.length
  have hi : i < ds.length := by
    apply Classical.byContradiction
    intro hn
    unfold Py.start at e
    rw [List.getElem?_append_right (by simpa using hn)] at e
    rw [List.getElem?_replicate] at e
    split at e <;> cases e
  have e' : ds[i]? = some d := by
    unfold Py.start at e
    rw [List.getElem?_append_left (by simpa using hi), List.getElem?_map] at e
    cases k : ds[i]? with
    | none => rw [k] at e; cases e
    | some d' => rw [k] at e; cases e; rfl
  have : ∀ (ds : List D) (vs : List V) (i : Nat) (d : D), VRels K B.fa ρ (Wu U ρ st) H ds vs → ds[i]? = some d → ∃ v, vs[i]? = some v ∧ VRel K B.fa ρ (Wu U ρ st) H d v := by
    intro ds
    induction ds with
    | nil => intro vs i d _ e; simp at e
    | cons a as ih =>
      intro vs i d h e
      obtain ⟨v, r, rfl, h1, h2⟩ := h
      cases i with
      | zero => simp at e; subst e; exact ⟨v, rfl, h1⟩
      | succ i => exact ih r i d h2 (by simpa using e)
  obtain ⟨v, h1, h2⟩ := this ds vs i d h e'
  refine ⟨v, ?_, h2⟩
  unfold L2.start
  rw [List.getElem?_append_left (by rw [List.length_map]; omega), List.getElem?_map, h1]
  try rfl
/-- a call's cells are forgotten -/
theorem take_ok {ρ' : List Addr} {st' : Store} {H' : Hp} (r : RelS K B.fa U ρ st H) (r' : RelS K B.fa U ρ' st' H') (x : Ext ρ st H ρ' st' H') :
    RelS K B.fa U ρ (st'.take st.length) H' ∧ Ext ρ st H ρ (st'.take st.length) H' ∧ Step (Wu U ρ' st') H' (Wu U ρ (st'.take st.length)) H' := by
  obtain ⟨t, rfl⟩ := x.pre
  obtain ⟨a, b⟩ := r'.take (n := st.length) r.len
  exact ⟨a, ⟨⟨[], by simp⟩, x.keep, fun a w => x.wr a (wr_take r.len w)⟩, b⟩
theorem fin_ok {ρ' : List Addr} {st' : Store} {H' : Hp} {d : D} {v : V} {Q : VK} (r : RelS K B.fa U ρ st H) (r' : RelS K B.fa U ρ' st' H') (x : Ext ρ st H ρ' st' H') (hv : VRel K B.fa ρ' (Wu U ρ' st') H' d v)
    (q : Post K B U (WE1 E) σ ρ st H (Py.fin st.length st' d) (CE1 K B U Q)) : Q v H' := by
  obtain ⟨a, b, c⟩ := take_ok r r' x
  cases d with
  | loc l =>
    simp only [Py.fin] at q
    obtain ⟨ad, rfl, e⟩ := hv
    split at q
    · rename_i hl
      refine q ρ H' a b _ ⟨ad, rfl, ?_⟩
      obtain ⟨t, rfl⟩ := x.pre
      rwa [List.getElem?_append_left (by rw [r.len]; exact hl)] at e
    · rename_i hl
      obtain ⟨cc, e2, hc⟩ := r'.at e
      have nl : isLoc (resolve st' (.loc l)) = false := by
        simp only [resolve, e2]
        cases k : cc.d with
        | loc m => rw [k] at hc; exact (show False from hc).elim
        | _ => rfl
      rw [nl] at q
      simp only at q
      refine q ρ H' a b _ (VRel.of ?_)
      have nw : ¬ Wu U ρ (st'.take st.length) ad := by
        rintro (u | ⟨i, c2, h1, _⟩)
        · exact r'.ud ad u (List.mem_of_getElem? e)
        · obtain ⟨t, rfl⟩ := x.pre
          have hi : i < ρ.length := (List.getElem?_eq_some_iff.mp h1).1
          have := nodup_at r'.nd (i := i) (j := l) (a := ad) (by rw [List.getElem?_append_left hi]; exact h1) e
          have := r.len
          omega
      have hc' := hc.step c rfl
      simp only [resolve, e2]
      cases kd : cc.d with
      | lst ds => rw [kd] at hc'; obtain ⟨vs, h1, h2⟩ := hc'; simp only [Rep]; exact ⟨ad, vs, rfl, ⟨nw, h1⟩, h2⟩
      | dct ks ds => rw [kd] at hc'; obtain ⟨vs, h1, h2, h3⟩ := hc'; simp only [Rep]; exact ⟨ad, vs, rfl, ⟨nw, h1⟩, h2, h3⟩
      | _ => rw [kd] at hc'; exact (show False from hc').elim
  | _ => exact q ρ H' a b _ (VRel.of (c.rep _ _ hv))
theorem spCall_len {T : List Fn} {k j n : Nat} {f : Fn} (hB : B.T = T) (hf : T[j]? = some f) (hn : f.ps = n) {vs : List V} {Q : VK} (h : spCall K B (callF B.T (k + 1)) j vs H Q E) : vs.length = n := by
  obtain ⟨U, ρ, st, ds, r, hv, q⟩ := h
  rw [hB] at q
  simp only [callF, hf, runFn] at q
  split at q
  · rename_i hl
    rw [← hv.length, hl, hn]
  · exact (show False from q).elim
theorem spCall_run {k j : Nat} {f : Fn} (hf : B.T[j]? = some f) {vs : List V} {Q : VK} (N : List Str) (h : spCall K B (callF B.T (k + 1)) j vs H Q E) :
    RS K B E (callF B.T k) f.body { nx := fun _ H' => Q .non H', rt := Q } (L2.start N vs) H := by
  obtain ⟨U, ρ, st, ds, r, hv, q⟩ := h
  simp only [callF, hf, runFn] at q
  split at q
  case isFalse => exact (show False from q).elim
  refine ⟨U, ρ, Py.start f.sl ds, st, start_rel r hv _ _, ?_⟩
  split at q
  · have qq : ∀ (o : Out Fl), Post K B U (WE1 E) [] ρ st H (match o with | .ok (.nx _) st' => .ok .none st' | .ok (.rt d) st' => .ok d st' | .exc e st' => .exc e st' | _ => .stuck) (CE1 K B U Q) → Post K B U (WE1 E) (L2.start N vs) ρ st H o (FlC K B U { nx := fun _ H' => Q .non H', rt := Q }) := by
      intro o q
      cases o with
      | stuck => exact q
      | exc e st' => exact q
      | ok fl st' =>
        intro ρ' H' s x
        cases fl with
        | nx env => exact fun σ' _ => q ρ' H' s x .non (VRel.of rep_non)
        | rt d => exact fun v hv => q ρ' H' s x v hv
        | bk env => exact (show False from q).elim
        | ct env => exact (show False from q).elim
    exact qq _ q
  · have qq : ∀ (o : Out Fl), Post K B U (WE1 E) [] ρ st H (match o with | .ok (.nx _) st' => .ok .none (st'.take st.length) | .ok (.rt d) st' => Py.fin st.length st' d | .exc e st' => .exc e (st'.take st.length) | _ => .stuck) (CE1 K B U Q) → Post K B U (WE1 E) (L2.start N vs) ρ st H o (FlC K B U { nx := fun _ H' => Q .non H', rt := Q }) := by
      intro o q
      cases o with
      | stuck => exact q
      | exc e st' =>
        intro ρ' H' cls dd s x he
        obtain ⟨a, b, c⟩ := take_ok r s x
        refine q ρ H' cls dd a b ?_
        obtain ⟨c1, x1, d1, v1, e1, e2, e3, e4, e5⟩ := he
        exact ⟨c1, x1, d1, v1, e1, e2, e3, e4, c.rep _ _ e5⟩
      | ok fl st' =>
        intro ρ' H' s x
        cases fl with
        | nx env =>
          intro σ' _
          obtain ⟨a, b, c⟩ := take_ok r s x
          exact q ρ H' a b .non (VRel.of rep_non)
        | rt d => exact fun v hv => fin_ok r s x hv q
        | bk env => exact (show False from q).elim
        | ct env => exact (show False from q).elim
    exact qq _ q
end
section
variable {P : Program} {w : World} {K : Frg} {mg : Str → Option Value} {base : Heap} {B : Tab} {tx : Tx}
/-- what is known of a def of the text -/
structure DefOk (K : Frg) (mg : Str → Option Value) (B : Tab) (tx : Tx) (j : Nat) (x : Str) : Prop where
  ex : ∃ (f : Fn) (params : Arguments) (body : List Stmt) (scope : Scope) (N : List Str) (qual : Str), B.T[j]? = some f ∧ FunD K x qual params body scope [] [] (B.fa j) (B.fd j) ∧ C8.scC N (B.ps j) scope = true ∧
    f.ps = (B.ps j).length ∧ agS tx N f.body scope body = true
  mg : mg x = some (.ref (B.fa j))
  bd : Binds K (B.fd j) (B.ps j) []
theorem glob_all (hc : ∀ x d, conB tx.con x d = true → ∃ u v, mg x = some u ∧ RelV v u ∧ ∀ W H, Rep K B.fa W H d v) (hb : ∀ s ∈ bltL, mg (Str.ofString s) = none) (hm : tx.cm = true → mg (Str.ofString "comb") = some (.builtin "math.comb")) (hm2 : tx.fm = true → mg (Str.ofString "factorial") = some (.builtin "math.factorial"))
    (hd : ∀ j x, tx.nm[j]? = some x → DefOk K mg B tx j x) : ∀ k, Glob P w K mg base B tx k := by
  intro k
  induction k with
  | zero =>
    refine ⟨fun j x e => ?_, hc, hb, hm, hm2⟩
    obtain ⟨⟨f, params, body, scope, N, qual, h1, F, h3, h4, h5⟩, g, b⟩ := hd j x e
    refine ⟨⟨fun vs H Q E q => ?_, fun A outer s H args us vs Q E _ _ _ _ q => ?_⟩, g, F.kp, b⟩
    · obtain ⟨U, ρ, st, ds, r, hv, q⟩ := q
      exact (show False from q).elim
    · obtain ⟨U, ρ, st, ds, r, hv, q⟩ := q
      exact (show False from q).elim
  | succ k ih =>
    refine ⟨fun j x e => ?_, hc, hb, hm, hm2⟩
    obtain ⟨⟨f, params, body, scope, N, qual, h1, F, h3, h4, h5⟩, g, b⟩ := hd j x e
    have fs := C8.fnScope_by h3
    refine ⟨F.ok fs (fun vs H Q E q => spCall_len rfl h1 h4 q) (fun cdv A outer s H vs Q E hr q => ⟨RS K B E (callF B.T k) f.body, ?_, spCall_run h1 N q⟩), g, F.kp, b⟩
    refine sndSs (N := N) (sc := scope) (tx := tx) (X := cxOf (CX P w) P w K mg base N qual scope (B.fa j) cdv A outer s H E) ⟨⟨rfl, rfl, fs.nd, rfl, fun _ _ => rfl, hr, takes_of rfl rfl rfl rfl, ih⟩, fs.kind, PassesOwn.leaving⟩ f.body body h5
/-- the check of a def -/
def C9 (tx : Tx) (N ps : List Str) (scope : Scope) (body : List Stmt) (f : Fn) : Bool := C8.scC N ps scope && (decide (f.ps = ps.length) && agS tx N f.body scope body)
theorem defOk_ex {j : Nat} {x qual : Str} {params : Arguments} {body : List Stmt} {scope : Scope} {N : List Str} {f : Fn} (hT : B.T[j]? = some f) (F : FunD K x qual params body scope [] [] (B.fa j) (B.fd j)) (c : C9 tx N (B.ps j) scope body f = true) :
    ∃ (f : Fn) (params : Arguments) (body : List Stmt) (scope : Scope) (N : List Str) (qual : Str), B.T[j]? = some f ∧ FunD K x qual params body scope [] [] (B.fa j) (B.fd j) ∧ C8.scC N (B.ps j) scope = true ∧
    f.ps = (B.ps j).length ∧ agS tx N f.body scope body = true := by
  simp only [C9, Bool.and_eq_true, decide_eq_true_eq] at c
  exact ⟨f, params, body, scope, N, qual, hT, F, c.1, c.2.1, c.2.2⟩
theorem dEq_eq {a b : D} (h : dEq a b = true) : a = b := by
  cases a <;> cases b <;> simp only [dEq, Bool.false_eq_true] at h
  · rfl
  · rw [beq_iff_eq] at h; rw [h]
  · rw [ieq_iff, decide_eq_true_eq] at h; rw [h]
  · rw [seq_iff, decide_eq_true_eq] at h
    have := congrArg (fun x : Str => x.cps.toList) h
    simpa using this
theorem conB_mem : ∀ {l : List (Str × D)} {x : Str} {d : D}, conB l x d = true → (x, d) ∈ l
  | [], _, _, h => by simp [conB] at h
  | p :: r, x, d, h => by
    simp only [conB] at h
    split at h
    · rename_i e
      have := dEq_eq h
      subst e this
      exact List.mem_cons_self
    · exact List.mem_cons_of_mem _ (conB_mem h)
theorem toX0 {k : Nat} {f : Addr} {fd : FuncData} {ps : List Str} {sp : Sp} (F : FnOk P w K mg base (CX P w) k f fd ps sp) : FnOk P w K mg base CX0 k f fd ps (fun vs H Q _ => sp vs H Q fun _ _ _ => False) where
  len := fun vs H Q E h => F.len vs H Q _ h
  run := fun A outer s H args us vs Q E hr e b v h => codeAny_mono (F.run A outer s H args us vs Q (fun _ _ _ => False) hr e b v h) fun r s' h => by
    cases r with
    | error e =>
      obtain ⟨a, B, H', cls, d, _, _, _, _, _, _, _, z⟩ := h
      exact z.elim
    | ok r => cases r <;> exact h
/-! ### the law's end -/
theorem law_sp {ps : List Str} {k j : Nat} {a : Addr} {ns : List Int} {H : Hp} {st2 : Store} (hS : SqL K H a (ns.map V.int)) (ev : callF B.T k j [.ro (ns.map D.int)] [] = .ok (.bl true) st2) :
    spCall K B (callF B.T k) j [.ref a] H (fun v _ => v = .bl true) (fun _ _ _ => False) := by
  have r0 : RelS K B.fa (fun _ => False) [] [] H := ⟨rfl, List.nodup_nil, fun _ h => h.elim, fun _ h => h.elim, fun i a c h => by simp at h⟩
  have wn : ∀ a, ¬ Wu (fun _ => False) [] [] a := fun a w => by
    rcases w with w | ⟨i, c, h, _⟩
    · exact w
    · simp at h
  refine ⟨fun _ => False, [], [], [.ro (ns.map D.int)], r0, ⟨.ref a, [], rfl, ?_, rfl⟩, ?_⟩
  · show Rep K B.fa _ H (.ro (ns.map D.int)) (.ref a)
    simp only [Rep]
    refine ⟨a, _, rfl, ?_, Reps.of_ints⟩
    rcases hS with h | h
    · exact .inl ⟨wn a, h⟩
    · exact .inr fun H' => .inr h
  · rw [ev]
    intro ρ' H' r x v hv
    simpa [VRel, Rep] using hv
theorem law_end {x : Str} {j lv : Nat} {T : List Fn} {fa0 : Addr} (B : Tab) (hT : B.T = T) (G : ∀ base k, Glob P w K mg base B tx k) (hx : tx.nm[j]? = some x) (hps : B.ps j = [Str.ofString "script"]) (hfa : mg x = some (.ref (B.fa j))) (hmg : mg x = some (.ref fa0)) (hbd : ∀ (s : Shared) (u : Value), BindsTo s (B.fd j) { pos := [u] } [((Str.ofString "script" : Str), u)])
    (ev : ∀ ns : List Int, ns.length ≤ 63 → ∃ st2, callF T lv j [.ro (ns.map D.int)] [] = .ok (.bl true) st2) :
    ∃ fd : FuncData, (∀ (s : Shared) (u : Value), BindsTo s fd { pos := [u] } [(("script" : Str), u)]) ∧
      (∀ (H : Hp) (a : Addr) (ns : List Int), ns.length ≤ 63 → Only H → SqL K H a (ns.map V.int) → (fun vs H Q (_ : XK) => spCall K B (callF B.T lv) j vs H Q fun _ _ _ => False) [V.ref a] H (fun v _ => v = V.bl true) fun _ _ _ => False) ∧
      ∀ base : Heap, K.In base → base.Ns mainGlobals mg → FnOk P w K mg base CX0 lv fa0 fd [Str.ofString "script"] (fun vs H Q _ => spCall K B (callF B.T lv) j vs H Q fun _ _ _ => False) := by
  have e : fa0 = B.fa j := by
    have := hmg.symm.trans hfa
    cases this
    try rfl
  subst e
  refine ⟨B.fd j, hbd, ?_, ?_⟩
  · intro H a ns hl _ hS
    obtain ⟨st2, e⟩ := ev ns hl
    exact law_sp (ps := []) hS (by rw [hT]; exact e)
  · intro base _ _
    rw [← hps]
    exact toX0 ((G base lv).call j x hx).1
end
end Py
end
section
set_option Elab.async false
set_option linter.all false
set_option maxRecDepth 100000
set_option maxHeartbeats 1000000
namespace Py
/-! ### terms that neither read nor write a cell -/
def tl : D → Bool
  | .loc _ => false
  | _ => true
def setSt {α : Type} (st : Store) : Out α → Out α
  | .ok a _ => .ok a st
  | .exc e _ => .exc e st
  | .stuck => .stuck
/-- F does not look at the store -/
structure Pu {α : Type} (F : Store → Out α) (R : α → Prop) : Prop where
  eq : ∀ st, F st = setSt st (F [])
  ok : ∀ a s, F [] = .ok a s → R a
theorem Pu.store {α : Type} {F : Store → Out α} {R : α → Prop} (h : Pu F R) {a : α} {s : Store} (e : F [] = .ok a s) : s = [] := by
  have := h.eq []
  rw [e] at this
  cases this
  try rfl
theorem Pu.mono {α : Type} {F : Store → Out α} {R R' : α → Prop} (h : Pu F R) (m : ∀ a, R a → R' a) : Pu F R' := ⟨h.eq, fun a s e => m a (h.ok a s e)⟩
theorem Pu.ret {α : Type} {a : α} {R : α → Prop} (h : R a) : Pu (fun st => .ok a st) R := ⟨fun st => rfl, fun a' s e => by cases e; exact h⟩
theorem Pu.stuck {α : Type} {R : α → Prop} : Pu (fun _ => (.stuck : Out α)) R := ⟨fun st => rfl, fun a s e => by cases e⟩
theorem Pu.opt {α : Type} {o : Option α} {R : α → Prop} (h : ∀ a, o = some a → R a) : Pu (fun st => Py.opt st o) R := by
  cases o with
  | none => exact Pu.stuck
  | some a => exact Pu.ret (h a rfl)
theorem gl_tl {o : Option D} {d : D} (h : gl o = some d) : tl d = true := by
  cases o with
  | none => cases h
  | some a => cases a <;> cases h <;> rfl
theorem Pu.opg {o : Option D} : Pu (fun st => Py.opg st o) (fun d => tl d = true) := Pu.opt fun d e => gl_tl e
theorem Pu.bind {α β : Type} {F : Store → Out α} {G : α → Store → Out β} {R : α → Prop} {R' : β → Prop} (h : Pu F R) (k : ∀ a, R a → Pu (G a) R') : Pu (fun st => (F st).bind G) R' := by
  cases e : F [] with
  | stuck =>
    have q : ∀ st, F st = .stuck := fun st => by rw [h.eq st, e]; rfl
    refine ⟨fun st => ?_, fun a s e' => ?_⟩
    · show (F st).bind G = setSt st ((F []).bind G)
      rw [q st, e]; rfl
    · change (F []).bind G = _ at e'
      rw [e] at e'; cases e'
  | exc x s =>
    have q : ∀ st, F st = .exc x st := fun st => by rw [h.eq st, e]; rfl
    refine ⟨fun st => ?_, fun a s e' => ?_⟩
    · show (F st).bind G = setSt st ((F []).bind G)
      rw [q st, q []]; rfl
    · change (F []).bind G = _ at e'
      rw [e] at e'; cases e'
  | ok a s =>
    obtain rfl := h.store e
    have q : ∀ st, F st = .ok a st := fun st => by rw [h.eq st, e]; rfl
    have kk := k a (h.ok a _ e)
    refine ⟨fun st => ?_, fun b s e' => ?_⟩
    · show (F st).bind G = setSt st ((F []).bind G)
      rw [q st, q []]
      exact kk.eq st
    · change (F []).bind G = _ at e'
      rw [e] at e'
      exact kk.ok b s e'
theorem Pu.noexc {α : Type} {F : Store → Out α} {R : α → Prop} (h : Pu F R) : Pu (fun st => (F st).noexc) R := by
  refine ⟨fun st => ?_, fun a s e => ?_⟩
  · show (F st).noexc = setSt st (F []).noexc
    rw [h.eq st]
    cases F [] <;> rfl
  · cases k : F [] with
    | ok b s' => rw [k] at e; cases e; exact h.ok _ _ k
    | _ => rw [k] at e; cases e
theorem res_tl {st : Store} {d : D} (h : tl d = true) : resolve st d = d := by cases d <;> first | rfl | (cases h)
theorem esc_tl {st : Store} {d : D} (h : tl d = true) : esc st d = .ok d st := by cases d <;> first | rfl | (cases h)
/-- .. by a value that is no cell -/
theorem Pu.res {α : Type} {R : α → Prop} {d : D} (h : tl d = true) {G : D → Store → Out α} (k : Pu (G d) R) : Pu (fun st => G (resolve st d) st) R := by
  have : (fun st => G (resolve st d) st) = G d := by funext st; rw [res_tl h]
  rw [this]
  exact k
theorem Pu.esc {α : Type} {R : α → Prop} {d : D} (h : tl d = true) {G : D → Store → Out α} (k : Pu (G d) R) : Pu (fun st => (Py.esc st d).bind G) R := by
  have : (fun st => (Py.esc st d).bind G) = G d := by funext st; rw [esc_tl h]; rfl
  rw [this]
  exact k
def PF (cf : CallF) (P : Nat → Bool) : Prop := ∀ j, P j = true → ∀ as, (∀ a ∈ as, tl a = true) → Pu (cf j as) (fun d => tl d = true)
mutual
def tgIn (A : Nat → Bool) : Ex → Bool
  | .var i => A i
  | .tup ts => tgsIn A ts
  | _ => false
def tgsIn (A : Nat → Bool) : Ex → Bool
  | .nil => true
  | .cons t ts => tgIn A t && tgsIn A ts
  | _ => false
end
/-- reads the slots A alone, calls the defs P alone -/
def px (P : Nat → Bool) (A : Nat → Bool) : Ex → Bool
  | .nil => true
  | .cons a as => px P A a && px P A as
  | .var i => A i
  | .cst d => tl d
  | .bin _ a b => px P A a && px P A b
  | .neg a => px P A a
  | .cmp _ a b => px P A a && px P A b
  | .chain _ _ a b c => px P A a && (px P A b && px P A c)
  | .and a b => px P A a && px P A b
  | .or a b => px P A a && px P A b
  | .not a => px P A a
  | .ite c a b => px P A c && (px P A a && px P A b)
  | .tup as => px P A as
  | .lst as => px P A as
  | .ix a b => px P A a && px P A b
  | .slc a lo hi => px P A a && (px P A lo && px P A hi)
  | .call j as => P j && px P A as
  | .prim _ as => px P A as
  | .meth _ o as => px P A o && px P A as
  | .comp elt own tg src c => px P A src && (px P (fun i => A i || own.contains i) elt && px P (fun i => A i || own.contains i) c)
  | _ => false
def EnvT (A : Nat → Bool) (env : Env) : Prop := ∀ i d, A i = true → env[i]? = some (some d) → tl d = true
theorem Pu.map1 {x : D} {st : Store} : True := trivial
theorem envT_set {A : Nat → Bool} {env : Env} (h : EnvT A env) {i : Nat} {d : D} (hd : tl d = true) : EnvT A (env.set i (some d)) := fun j d' a e => by
  by_cases q : i = j
  · subst q
    have hl : i < (env.set i (some d)).length := (List.getElem?_eq_some_iff.mp e).1
    rw [List.length_set] at hl
    rw [List.getElem?_set_self hl] at e
    cases e
    exact hd
  · rw [List.getElem?_set_ne q] at e
    exact h j d' a e
mutual
theorem envT_tg {A : Nat → Bool} : ∀ (t : Ex) (d : D) (env env' : Env), EnvT A env → setTg t d env = some env' → EnvT A env'
  | .var i, d, env, env', h, e => by
    simp only [setTg] at e
    cases k : gl (some d) with
    | none => rw [k] at e; cases e
    | some d' =>
      rw [k] at e
      cases e
      exact envT_set h (gl_tl k)
  | .tup ts, d, env, env', h, e => by
    cases d <;> simp only [setTg, reduceCtorEq] at e
    exact envT_tgs ts _ env env' h e
  | .nil, d, _, _, _, e => by cases d <;> simp [setTg] at e
  | .cons _ _, d, _, _, _, e => by cases d <;> simp [setTg] at e
  | .cst _, d, _, _, _, e => by cases d <;> simp [setTg] at e
  | .bin _ _ _, d, _, _, _, e => by cases d <;> simp [setTg] at e
  | .neg _, d, _, _, _, e => by cases d <;> simp [setTg] at e
  | .cmp _ _ _, d, _, _, _, e => by cases d <;> simp [setTg] at e
  | .chain _ _ _ _ _, d, _, _, _, e => by cases d <;> simp [setTg] at e
  | .and _ _, d, _, _, _, e => by cases d <;> simp [setTg] at e
  | .or _ _, d, _, _, _, e => by cases d <;> simp [setTg] at e
  | .not _, d, _, _, _, e => by cases d <;> simp [setTg] at e
  | .ite _ _ _, d, _, _, _, e => by cases d <;> simp [setTg] at e
  | .lst _, d, _, _, _, e => by cases d <;> simp [setTg] at e
  | .ix _ _, d, _, _, _, e => by cases d <;> simp [setTg] at e
  | .slc _ _ _, d, _, _, _, e => by cases d <;> simp [setTg] at e
  | .slcR _, d, _, _, _, e => by cases d <;> simp [setTg] at e
  | .enumE _, d, _, _, _, e => by cases d <;> simp [setTg] at e
  | .call _ _, d, _, _, _, e => by cases d <;> simp [setTg] at e
  | .calv _ _ _, d, _, _, _, e => by cases d <;> simp [setTg] at e
  | .prim _ _, d, _, _, _, e => by cases d <;> simp [setTg] at e
  | .meth _ _ _, d, _, _, _, e => by cases d <;> simp [setTg] at e
  | .comp _ _ _ _ _, d, _, _, _, e => by cases d <;> simp [setTg] at e
  | .comp2 _ _ _ _ _ _, d, _, _, _, e => by cases d <;> simp [setTg] at e
  | .dcomp _ _ _ _ _ _, d, _, _, _, e => by cases d <;> simp [setTg] at e
  | .dict _ _, d, _, _, _, e => by cases d <;> simp [setTg] at e
theorem envT_tgs {A : Nat → Bool} : ∀ (ts : Ex) (ds : List D) (env env' : Env), EnvT A env → setTgs ts ds env = some env' → EnvT A env'
  | .nil, [], env, env', h, e => by cases e; exact h
  | .nil, _ :: _, _, _, _, e => by simp [setTgs] at e
  | .cons t ts, [], _, _, _, e => by simp [setTgs] at e
  | .cons t ts, d :: ds, env, env', h, e => by
    simp only [setTgs] at e
    cases k : setTg t d env with
    | none => rw [k] at e; cases e
    | some env1 =>
      rw [k] at e
      exact envT_tgs ts ds env1 env' (envT_tg t d env env1 h k) e
  | .var _, ds, _, _, _, e => by cases ds <;> simp [setTgs] at e
  | .tup _, ds, _, _, _, e => by cases ds <;> simp [setTgs] at e
  | .cst _, ds, _, _, _, e => by cases ds <;> simp [setTgs] at e
  | .bin _ _ _, ds, _, _, _, e => by cases ds <;> simp [setTgs] at e
  | .neg _, ds, _, _, _, e => by cases ds <;> simp [setTgs] at e
  | .cmp _ _ _, ds, _, _, _, e => by cases ds <;> simp [setTgs] at e
  | .chain _ _ _ _ _, ds, _, _, _, e => by cases ds <;> simp [setTgs] at e
  | .and _ _, ds, _, _, _, e => by cases ds <;> simp [setTgs] at e
  | .or _ _, ds, _, _, _, e => by cases ds <;> simp [setTgs] at e
  | .not _, ds, _, _, _, e => by cases ds <;> simp [setTgs] at e
  | .ite _ _ _, ds, _, _, _, e => by cases ds <;> simp [setTgs] at e
  | .lst _, ds, _, _, _, e => by cases ds <;> simp [setTgs] at e
  | .ix _ _, ds, _, _, _, e => by cases ds <;> simp [setTgs] at e
  | .slc _ _ _, ds, _, _, _, e => by cases ds <;> simp [setTgs] at e
  | .slcR _, ds, _, _, _, e => by cases ds <;> simp [setTgs] at e
  | .enumE _, ds, _, _, _, e => by cases ds <;> simp [setTgs] at e
  | .call _ _, ds, _, _, _, e => by cases ds <;> simp [setTgs] at e
  | .calv _ _ _, ds, _, _, _, e => by cases ds <;> simp [setTgs] at e
  | .prim _ _, ds, _, _, _, e => by cases ds <;> simp [setTgs] at e
  | .meth _ _ _, ds, _, _, _, e => by cases ds <;> simp [setTgs] at e
  | .comp _ _ _ _ _, ds, _, _, _, e => by cases ds <;> simp [setTgs] at e
  | .comp2 _ _ _ _ _ _, ds, _, _, _, e => by cases ds <;> simp [setTgs] at e
  | .dcomp _ _ _ _ _ _, ds, _, _, _, e => by cases ds <;> simp [setTgs] at e
  | .dict _ _, ds, _, _, _, e => by cases ds <;> simp [setTgs] at e
end
theorem envT_wipe {A : Nat → Bool} {env : Env} (h : EnvT A env) : ∀ own : List Nat, EnvT (fun i => A i || own.contains i) (wipe env own)
  | [] => fun i d a e => h i d (by simpa using a) e
  | k :: own => fun i d a e => by
    change ((wipe env own).set k none)[i]? = _ at e
    by_cases q : k = i
    · subst q
      have hl : k < ((wipe env own).set k none).length := (List.getElem?_eq_some_iff.mp e).1
      rw [List.length_set] at hl
      rw [List.getElem?_set_self hl] at e
      cases e
    · rw [List.getElem?_set_ne q] at e
      refine envT_wipe h own i d ?_ e
      simp only [List.contains_cons, Bool.or_eq_true, beq_iff_eq] at a ⊢
      rcases a with a | a | a
      · exact .inl a
      · exact absurd a.symm q
      · exact .inr a
theorem truth_tl {d : D} : True := trivial
theorem pu_compL {f : D → Store → Out (Option D)} (h : ∀ x, Pu (f x) (fun _ => True)) : ∀ l, Pu (compL f l) (fun _ => True)
  | [] => Pu.ret trivial
  | x :: xs => (h x).bind fun y _ => (pu_compL h xs).bind fun ys _ => by cases y <;> exact Pu.ret trivial
theorem pu_escL : ∀ ds : List D, (∀ d ∈ ds, tl d = true) → Pu (escL ds) (fun _ => True)
  | [], _ => Pu.ret trivial
  | d :: ds, h => Pu.esc (h d List.mem_cons_self) ((pu_escL ds fun x hx => h x (List.mem_cons_of_mem _ hx)).bind fun r _ => Pu.ret trivial)
theorem map_res {st : Store} : ∀ {l : List D}, (∀ d ∈ l, tl d = true) → l.map (resolve st) = l
  | [], _ => rfl
  | d :: l, h => by rw [List.map_cons, res_tl (h d List.mem_cons_self), map_res fun x hx => h x (List.mem_cons_of_mem _ hx)]
theorem pu_bl {o : Option Bool} : Pu (fun st => opt st (o.map D.bl)) (fun d => tl d = true) := Pu.opt fun d e => by
  cases o with
  | none => cases e
  | some b => cases e; rfl
theorem pu_bln {o : Option Bool} : Pu (fun st => opt st (o.map fun b => D.bl !b)) (fun d => tl d = true) := Pu.opt fun d e => by
  cases o with
  | none => cases e
  | some b => cases e; rfl
section
variable {cf : CallF} {P : Nat → Bool}
theorem pu_src {F : Store → Out D} (h : Pu F (fun d => tl d = true)) : Pu (fun st => srcL (F st)) (fun _ => True) :=
  h.bind fun s hs => Pu.esc hs (Pu.opt fun _ _ => trivial)
theorem pu_truth {α : Type} {R : α → Prop} {x : D} (hx : tl x = true) {F G : Store → Out α} (hF : Pu F R) (hG : Pu G R) : Pu (fun st => match truth (resolve st x) with | some true => F st | some false => G st | .none => .stuck) R := by
  have : (fun st => match truth (resolve st x) with | some true => F st | some false => G st | .none => .stuck) = (fun st => match truth x with | some true => F st | some false => G st | .none => .stuck) := by funext st; rw [res_tl hx]
  rw [this]
  cases truth x with
  | none => exact Pu.stuck
  | some b => cases b <;> assumption
mutual
theorem pxE (hc : PF cf P) : ∀ (e : Ex) (A : Nat → Bool) (env : Env), px P A e = true → EnvT A env → Pu (evE cf e env) (fun d => tl d = true)
  | .var i, A, env, p, h => by
    have : evE cf (.var i) env = fun st => match env[i]? with | some (some d) => .ok d st | _ => .stuck := by funext st; simp only [evE]; try rfl
    rw [this]
    cases k : env[i]? with
    | none => exact Pu.stuck
    | some o =>
      cases o with
      | none => exact Pu.stuck
      | some d => exact Pu.ret (h i d p k)
  | .cst d, A, env, p, h => Pu.ret (a := d) p
  | .bin op a b, A, env, p, h => by
    simp only [px, Bool.and_eq_true] at p
    exact (pxE hc a A env p.1 h).bind fun x hx => (pxE hc b A env p.2 h).bind fun y hy => Pu.res (G := fun x st => opg st (binD op x (resolve st y))) hx (Pu.res (G := fun y st => opg st (binD op x y)) hy Pu.opg)
  | .neg a, A, env, p, h => by
    refine (pxE hc a A env p h).bind fun x hx => ?_
    cases x <;> first | exact Pu.ret rfl | exact Pu.stuck
  | .cmp op a b, A, env, p, h => by
    simp only [px, Bool.and_eq_true] at p
    exact (pxE hc a A env p.1 h).bind fun x hx => (pxE hc b A env p.2 h).bind fun y hy => Pu.res (G := fun x st => opt st ((cmpD op x (resolve st y)).map D.bl)) hx (Pu.res (G := fun y st => opt st ((cmpD op x y).map D.bl)) hy pu_bl)
  | .chain op op' a b c, A, env, p, h => by
    simp only [px, Bool.and_eq_true] at p
    refine (pxE hc a A env p.1 h).bind fun x hx => (pxE hc b A env p.2.1 h).bind fun y hy => ?_
    have : (fun st => match cmpD op (resolve st x) (resolve st y) with
      | some true => (evE cf c env st).bind fun z st => opt st ((cmpD op' (resolve st y) (resolve st z)).map D.bl)
      | some false => .ok (.bl false) st
      | .none => .stuck) = (fun st => match cmpD op x y with
      | some true => (evE cf c env st).bind fun z st => opt st ((cmpD op' (resolve st y) (resolve st z)).map D.bl)
      | some false => .ok (.bl false) st
      | .none => .stuck) := by funext st; rw [res_tl hx, res_tl hy]
    show Pu (fun st => match cmpD op (resolve st x) (resolve st y) with
      | some true => (evE cf c env st).bind fun z st => opt st ((cmpD op' (resolve st y) (resolve st z)).map D.bl)
      | some false => .ok (.bl false) st
      | .none => .stuck) _
    rw [this]
    cases cmpD op x y with
    | none => exact Pu.stuck
    | some k =>
      cases k with
      | false => exact Pu.ret rfl
      | true => exact (pxE hc c A env p.2.2 h).bind fun z hz => Pu.res (G := fun y st => opt st ((cmpD op' y (resolve st z)).map D.bl)) hy (Pu.res (G := fun z st => opt st ((cmpD op' y z).map D.bl)) hz pu_bl)
  | .and a b, A, env, p, h => by
    simp only [px, Bool.and_eq_true] at p
    exact (pxE hc a A env p.1 h).bind fun x hx => pu_truth hx (pxE hc b A env p.2 h) (Pu.ret hx)
  | .or a b, A, env, p, h => by
    simp only [px, Bool.and_eq_true] at p
    exact (pxE hc a A env p.1 h).bind fun x hx => pu_truth hx (Pu.ret hx) (pxE hc b A env p.2 h)
  | .not a, A, env, p, h => (pxE hc a A env p h).bind fun x hx => Pu.res (G := fun x st => opt st ((truth x).map fun b => D.bl !b)) hx pu_bln
  | .ite c a b, A, env, p, h => by
    simp only [px, Bool.and_eq_true] at p
    exact (pxE hc c A env p.1 h).bind fun x hx => pu_truth hx (pxE hc a A env p.2.1 h) (pxE hc b A env p.2.2 h)
  | .tup as, A, env, p, h => (pxL hc as A env p h).bind fun l hl => (pu_escL l hl).bind fun l _ => by
      by_cases k : l.length ≤ sizeMax
      · simp only [k, if_true]; exact Pu.ret rfl
      · simp only [k, if_false]; exact Pu.stuck
  | .lst as, A, env, p, h => (pxL hc as A env p h).bind fun l hl => (pu_escL l hl).bind fun l _ => by
      by_cases k : l.length ≤ sizeMax
      · simp only [k, if_true]; exact Pu.ret rfl
      · simp only [k, if_false]; exact Pu.stuck
  | .ix a b, A, env, p, h => by
    simp only [px, Bool.and_eq_true] at p
    exact (pxE hc a A env p.1 h).bind fun x hx => (pxE hc b A env p.2 h).bind fun y hy => Pu.res (G := fun x st => opg st (ixD x (resolve st y))) hx (Pu.res (G := fun y st => opg st (ixD x y)) hy Pu.opg)
  | .slc a lo hi, A, env, p, h => by
    simp only [px, Bool.and_eq_true] at p
    refine (pxE hc a A env p.1 h).bind fun x hx => (pxE hc lo A env p.2.1 h).bind fun y hy => ?_
    by_cases k : partOk (isCN lo) y = true
    · simp only [k, if_true]
      refine (pxE hc hi A env p.2.2 h).bind fun z hz => ?_
      by_cases k2 : partOk (isCN hi) z = true
      · simp only [k2, if_true]
        exact Pu.res (G := fun x st => opg st (slcD x y z)) hx Pu.opg
      · simp only [k2]; exact Pu.stuck
    · simp only [k]; exact Pu.stuck
  | .call j as, A, env, p, h => by
    simp only [px, Bool.and_eq_true] at p
    refine (pxL hc as A env p.2 h).bind fun l hl => ?_
    cases l with
    | nil => exact (hc j p.1 [] hl).noexc
    | cons d ds => exact hc j p.1 (d :: ds) hl
  | .prim q as, A, env, p, h => (pxL hc as A env p h).bind fun l hl => by
      have : (fun st => opg st (primD q (l.map (resolve st)))) = fun st => opg st (primD q l) := by funext st; rw [map_res hl]
      show Pu (fun st => opg st (primD q (l.map (resolve st)))) _
      rw [this]
      exact Pu.opg
  | .meth q o as, A, env, p, h => by
    simp only [px, Bool.and_eq_true] at p
    refine (pxE hc o A env p.1 h).bind fun x hx => ?_
    have : (fun st => if recvOk q (resolve st x) then (evL cf as env st).bind fun l st => opg st (primD q (resolve st x :: l.map (resolve st))) else .stuck) = fun st => if recvOk q x then (evL cf as env st).bind fun l st => opg st (primD q (resolve st x :: l.map (resolve st))) else .stuck := by funext st; rw [res_tl hx]
    show Pu (fun st => if recvOk q (resolve st x) then (evL cf as env st).bind fun l st => opg st (primD q (resolve st x :: l.map (resolve st))) else .stuck) _
    rw [this]
    by_cases k : recvOk q x = true
    · simp only [k, if_true]
      refine (pxL hc as A env p.2 h).bind fun l hl => ?_
      have : (fun st => opg st (primD q (resolve st x :: l.map (resolve st)))) = fun st => opg st (primD q (x :: l)) := by funext st; rw [map_res hl, res_tl hx]
      show Pu (fun st => opg st (primD q (resolve st x :: l.map (resolve st)))) _
      rw [this]
      exact Pu.opg
    · simp only [k]; exact Pu.stuck
  | .comp elt own tg src c, A, env, p, h => by
    simp only [px, Bool.and_eq_true] at p
    have hw := envT_wipe h own
    refine (pu_src (pxE hc src A env p.1 h)).bind fun l _ => ((pu_compL (fun x => ?_) l).noexc).bind fun r _ => ?_
    · cases k : setTg tg x (wipe env own) with
      | none => exact Pu.stuck
      | some env' =>
        have h' := envT_tg tg x _ env' hw k
        exact (pxE hc c _ env' p.2.2 h').bind fun b hb => pu_truth hb ((pxE hc elt _ env' p.2.1 h').bind fun y hy => Pu.esc hy (Pu.ret trivial)) (Pu.ret trivial)
    · by_cases k : r.length ≤ sizeMax
      · simp only [k, if_true]; exact Pu.ret rfl
      · simp only [k, if_false]; exact Pu.stuck
  | .nil, _, _, _, _ => Pu.stuck
  | .cons _ _, _, _, _, _ => Pu.stuck
  | .slcR _, _, _, p, _ => by simp [px] at p
  | .enumE _, _, _, p, _ => by simp [px] at p
  | .calv _ _ _, _, _, p, _ => by simp [px] at p
  | .comp2 _ _ _ _ _ _, _, _, p, _ => by simp [px] at p
  | .dcomp _ _ _ _ _ _, _, _, p, _ => by simp [px] at p
  | .dict _ _, _, _, p, _ => by simp [px] at p
theorem pxL (hc : PF cf P) : ∀ (e : Ex) (A : Nat → Bool) (env : Env), px P A e = true → EnvT A env → Pu (evL cf e env) (fun l => ∀ d ∈ l, tl d = true)
  | .nil, A, env, p, h => Pu.ret (a := ([] : List D)) fun d hd => by cases hd
  | .cons a as, A, env, p, h => by
    simp only [px, Bool.and_eq_true] at p
    exact (pxE hc a A env p.1 h).bind fun x hx => (pxL hc as A env p.2 h).bind fun l hl => Pu.ret fun d hd => by
      rcases List.mem_cons.mp hd with rfl | hd
      · exact hx
      · exact hl d hd
  | .var _, _, _, _, _ => Pu.stuck
  | .cst _, _, _, _, _ => Pu.stuck
  | .bin _ _ _, _, _, _, _ => Pu.stuck
  | .neg _, _, _, _, _ => Pu.stuck
  | .cmp _ _ _, _, _, _, _ => Pu.stuck
  | .chain _ _ _ _ _, _, _, _, _ => Pu.stuck
  | .and _ _, _, _, _, _ => Pu.stuck
  | .or _ _, _, _, _, _ => Pu.stuck
  | .not _, _, _, _, _ => Pu.stuck
  | .ite _ _ _, _, _, _, _ => Pu.stuck
  | .tup _, _, _, _, _ => Pu.stuck
  | .lst _, _, _, _, _ => Pu.stuck
  | .ix _ _, _, _, _, _ => Pu.stuck
  | .slc _ _ _, _, _, _, _ => Pu.stuck
  | .slcR _, _, _, _, _ => Pu.stuck
  | .enumE _, _, _, _, _ => Pu.stuck
  | .call _ _, _, _, _, _ => Pu.stuck
  | .calv _ _ _, _, _, _, _ => Pu.stuck
  | .prim _ _, _, _, _, _ => Pu.stuck
  | .meth _ _ _, _, _, _, _ => Pu.stuck
  | .comp _ _ _ _ _, _, _, _, _ => Pu.stuck
  | .comp2 _ _ _ _ _ _, _, _, _, _ => Pu.stuck
  | .dcomp _ _ _ _ _ _, _, _, _, _ => Pu.stuck
  | .dict _ _, _, _, _, _ => Pu.stuck
end
end
/-- statements -/
def ps (P : Nat → Bool) (A : Nat → Bool) : Sm → Bool
  | .nil => true
  | .seq s r => ps P A s && ps P A r
  | .set _ e => px P A e
  | .par _ ni _ nj a b => !ni && (!nj && (px P A a && px P A b))
  | .aug i _ e => A i && px P A e
  | .expr e => px P A e
  | .ret e => px P A e
  | .retN => true
  | .ite c a b => px P A c && (ps P A a && ps P A b)
  | .for _ src b => px P A src && ps P A b
  | .whil c b => px P A c && ps P A b
  | .brk => true
  | .cont => true
  | .pass => true
  | .bad => true
  | _ => false
def FlT (A : Nat → Bool) : Fl → Prop
  | .nx env => EnvT A env
  | .bk env => EnvT A env
  | .ct env => EnvT A env
  | .rt d => tl d = true
theorem pu_forL {A : Nat → Bool} {f : D → Env → Store → Out Fl} (h : ∀ x env, EnvT A env → Pu (f x env) (FlT A)) : ∀ l env, EnvT A env → Pu (forL f l env) (FlT A)
  | [], env, he => Pu.ret (a := Fl.nx env) he
  | x :: xs, env, he => (h x env he).bind fun fl hf => by
    cases fl with
    | nx env' => exact pu_forL h xs env' hf
    | ct env' => exact pu_forL h xs env' hf
    | bk env' => exact Pu.ret (a := Fl.nx env') hf
    | rt d => exact Pu.ret (a := Fl.rt d) hf
theorem pu_whL {A : Nat → Bool} {c : Env → Store → Out Bool} {f : Env → Store → Out Fl} (hc : ∀ env, EnvT A env → Pu (c env) (fun _ => True)) (h : ∀ env, EnvT A env → Pu (f env) (FlT A)) (n : Nat) : ∀ env, EnvT A env → Pu (whL c f n env) (FlT A) := by
  induction n with
  | zero => exact fun env he => Pu.stuck
  | succ n ih =>
    intro env he
    refine (hc env he).bind (R' := FlT A) (G := fun b st => match b with
      | false => .ok (.nx env) st
      | true => (f env st).bind fun fl st => match fl with
        | .nx env' => whL c f n env' st
        | .ct env' => whL c f n env' st
        | .bk env' => .ok (.nx env') st
        | .rt d => .ok (.rt d) st) fun b _ => ?_
    cases b with
    | false => exact Pu.ret (a := Fl.nx env) he
    | true =>
      refine (h env he).bind fun fl hf => ?_
      cases fl with
      | nx env' => exact ih env' hf
      | ct env' => exact ih env' hf
      | bk env' => exact Pu.ret (a := Fl.nx env') hf
      | rt d => exact Pu.ret (a := Fl.rt d) hf
theorem aug_tl {op : BOp} {x y z : D} (e : augD op x y = some z) : tl z = true := by
  cases x <;> cases y <;> simp only [augD, reduceCtorEq] at e
  · rename_i a b
    have : ∀ o : Option Int, o.map D.int = some z → tl z = true := fun o e => by
      cases o with
      | none => cases e
      | some c => cases e; rfl
    cases op <;> simp only [binD, reduceCtorEq] at e <;> exact this _ e
  · cases op <;> simp only [binD, reduceCtorEq] at e
    split at e <;> cases e
    try rfl
section
variable {cf : CallF} {P : Nat → Bool}
theorem pxS (hc : PF cf P) (A : Nat → Bool) : ∀ (s : Sm) (env : Env), ps P A s = true → EnvT A env → Pu (evS cf s env) (FlT A)
  | .nil, env, p, h => Pu.ret (a := Fl.nx env) h
  | .seq s r, env, p, h => by
    simp only [ps, Bool.and_eq_true] at p
    exact (pxS hc A s env p.1 h).bind fun fl hf => by
      cases fl with
      | nx env' => exact pxS hc A r env' p.2 hf
      | bk env' => exact Pu.ret (a := Fl.bk env') hf
      | ct env' => exact Pu.ret (a := Fl.ct env') hf
      | rt d => exact Pu.ret (a := Fl.rt d) hf
  | .set tg e, env, p, h => (pxE hc e A env p h).bind fun x hx => by
      have two : Pu (fun st => (opt st (setTg tg (resolve st x) env)).bind fun env' st => Out.ok (Fl.nx env') st) (FlT A) :=
        Pu.res (G := fun x st => (opt st (setTg tg x env)).bind fun env' st => Out.ok (Fl.nx env') st) hx ((Pu.opt (R := EnvT A) fun env' e => envT_tg tg x env env' h e).bind fun env' h' => Pu.ret (a := Fl.nx env') h')
      cases tg with
      | var i => exact Pu.ret (a := Fl.nx _) (envT_set h hx)
      | _ => exact two
  | .par i ni j nj a b, env, p, h => by
    simp only [ps, Bool.and_eq_true, Bool.not_eq_true'] at p
    obtain ⟨rfl, rfl, p1, p2⟩ := p
    exact (pxE hc a A env p1 h).bind fun x hx => (pxE hc b A env p2 h).bind fun y hy => Pu.ret (a := Fl.nx _) (envT_set (envT_set h hx) hy)
  | .aug i op e, env, p, h => by
    simp only [ps, Bool.and_eq_true] at p
    have : evS cf (.aug i op e) env = fun st => match env[i]? with
      | some (some x) => (evE cf e env st).bind fun y st => (opt st (augD op x (resolve st y))).bind fun z st => .ok (.nx (env.set i (some z))) st
      | _ => .stuck := by funext st; simp only [evS]; try rfl
    rw [this]
    cases k : env[i]? with
    | none => exact Pu.stuck
    | some o =>
      cases o with
      | none => exact Pu.stuck
      | some x => exact (pxE hc e A env p.2 h).bind fun y hy => Pu.res (G := fun y st => (opt st (augD op x y)).bind fun z st => Out.ok (Fl.nx (env.set i (some z))) st) hy ((Pu.opt (R := fun z => tl z = true) fun z e => aug_tl e).bind fun z hz => Pu.ret (a := Fl.nx _) (envT_set h hz))
  | .expr e, env, p, h => (pxE hc e A env p h).bind fun x hx => Pu.ret (a := Fl.nx env) h
  | .ret e, env, p, h => (pxE hc e A env p h).bind fun x hx => Pu.ret (a := Fl.rt x) hx
  | .retN, env, p, h => Pu.ret (a := Fl.rt .none) (by exact rfl)
  | .ite c a b, env, p, h => by
    simp only [ps, Bool.and_eq_true] at p
    exact (pxE hc c A env p.1 h).bind fun x hx => pu_truth hx (pxS hc A a env p.2.1 h) (pxS hc A b env p.2.2 h)
  | .for tg src b, env, p, h => by
    simp only [ps, Bool.and_eq_true] at p
    refine (pu_src (pxE hc src A env p.1 h)).bind fun l _ => pu_forL (fun x env he => ?_) l env h
    cases k : setTg tg x env with
    | none => exact Pu.stuck
    | some env' => exact pxS hc A b env' p.2 (envT_tg tg x env env' he k)
  | .whil c b, env, p, h => by
    simp only [ps, Bool.and_eq_true] at p
    have w : evS cf (.whil c b) env = fun st => whL (fun env st => (evE cf c env st).bind fun x st => opt st (truth (resolve st x))) (evS cf b) fuel env st := by funext st; simp only [evS]
    rw [w]
    generalize fuel = fu
    exact pu_whL (fun env he => (pxE hc c A env p.1 he).bind fun x hx => Pu.res (G := fun x st => opt st (truth x)) hx (Pu.opt fun _ _ => trivial)) (fun env he => pxS hc A b env p.2 he) fu env h
  | .brk, env, p, h => Pu.ret (a := Fl.bk env) h
  | .cont, env, p, h => Pu.ret (a := Fl.ct env) h
  | .pass, env, p, h => Pu.ret (a := Fl.nx env) h
  | .bad, env, p, h => Pu.stuck
  | .new _ _, _, p, _ => by simp [ps] at p
  | .setIx _ _ _, _, p, _ => by simp [ps] at p
  | .augIx _ _ _ _, _, p, _ => by simp [ps] at p
  | .app _ _, _, p, _ => by simp [ps] at p
  | .ext _ _, _, p, _ => by simp [ps] at p
  | .popTo _ _, _, p, _ => by simp [ps] at p
  | .popTg _ _, _, p, _ => by simp [ps] at p
  | .rais _ _, _, p, _ => by simp [ps] at p
  | .tryc _ _ _ _, _, p, _ => by simp [ps] at p
end
/-- the defs P of a text are pure -/
def pureT (T : List Fn) (P : Nat → Bool) : Bool := (List.range T.length).all fun j => !P j || (match T[j]? with
  | some f => f.keep && ps P (fun _ => true) f.body
  | .none => false)
theorem pure_call {T : List Fn} {P : Nat → Bool} (hp : pureT T P = true) (hb : ∀ j, P j = true → j < T.length) : ∀ k, PF (callF T k) P
  | 0 => fun j _ as _ => Pu.stuck
  | k + 1 => fun j pj as has => by
    have hp' := hp
    have hj := hb j pj
    simp only [pureT, List.all_eq_true, List.mem_range] at hp
    have q := hp j hj
    rw [pj] at q
    cases e : T[j]? with
    | none => rw [e] at q; cases q
    | some f =>
      rw [e] at q
      simp only [Bool.not_true, Bool.false_or, Bool.and_eq_true] at q
      have : callF T (k + 1) j as = fun st => if as.length = f.ps then (evS (callF T k) f.body (start f.sl as) st).bind fun fl st' => (match fl with | .nx _ => .ok .none st' | .rt d => .ok d st' | _ => .stuck) else .stuck := by
        funext st
        simp only [callF, e, runFn, q.1]
        split
        · cases evS (callF T k) f.body (start f.sl as) st with
          | ok fl s => cases fl <;> rfl
          | _ => rfl
        · rfl
      rw [this]
      by_cases hl : as.length = f.ps
      · simp only [hl, if_true]
        refine (pxS (pure_call hp' hb k) (fun _ => true) f.body (start f.sl as) q.2 ?_).bind fun fl hf => ?_
        · intro i d _ ei
          unfold start at ei
          by_cases hi : i < as.length
          · rw [List.getElem?_append_left (by simpa using hi), List.getElem?_map] at ei
            cases k : as[i]? with
            | none => rw [k] at ei; cases ei
            | some d' => rw [k] at ei; cases ei; exact has d (List.mem_of_getElem? k)
          · rw [List.getElem?_append_right (by simpa using hi), List.getElem?_replicate] at ei
            split at ei <;> cases ei
        · cases fl with
          | nx env => exact Pu.ret rfl
          | rt d => exact Pu.ret hf
          | _ => exact Pu.stuck
      · simp only [hl, if_false]; exact Pu.stuck
end Py
end
section
set_option maxRecDepth 100000
namespace k00
open Py Ex Sm
/-- 0 is_int: value -/
def f0 : Fn := ⟨true, 1, 1,
 (.seq (.ret (.and (.prim .isint (.cons (.var 0) .nil)) (.not (.prim .isbool (.cons (.var 0) .nil)))))
 .nil)⟩
/-- 1 is_within: value low high -/
def f1 : Fn := ⟨true, 3, 3,
 (.seq (.ret (.and (.call 0 (.cons (.var 0) .nil)) (.chain .le .le (.var 1) (.var 0) (.var 2))))
 .nil)⟩
/-- 2 is_seq: value -/
def f2 : Fn := ⟨true, 1, 1,
 (.seq (.ret (.prim .isseq (.cons (.var 0) .nil)))
 .nil)⟩
/-- 3 is_rising: value low high last member -/
def f3 : Fn := ⟨true, 3, 5,
 (.seq (.ite (.not (.call 2 (.cons (.var 0) .nil)))
 (.seq (.ret (.cst (.bl false)))
 .nil)
 .nil)
 (.seq (.set (.var 3) (.bin .sub (.var 1) (.cst (.int 1))))
 (.seq (.for (.var 4) (.var 0)
 (.seq (.ite (.not (.call 1 (.cons (.var 4) (.cons (.bin .add (.var 3) (.cst (.int 1))) (.cons (.var 2) .nil)))))
 (.seq (.ret (.cst (.bl false)))
 .nil)
 .nil)
 (.seq (.set (.var 3) (.var 4))
 .nil)))
 (.seq (.ret (.cst (.bl true)))
 .nil))))⟩
/-- 4 is_numbering: value many met member -/
def f4 : Fn := ⟨false, 2, 4,
 (.seq (.ite (.or (.not (.call 2 (.cons (.var 0) .nil))) (.cmp .ne (.prim .len (.cons (.var 0) .nil)) (.var 1)))
 (.seq (.ret (.cst (.bl false)))
 .nil)
 .nil)
 (.seq (.new 2 (.bin .mul (.lst (.cons (.cst (.bl false)) .nil)) (.var 1)))
 (.seq (.for (.var 3) (.var 0)
 (.seq (.ite (.or (.not (.call 1 (.cons (.var 3) (.cons (.cst (.int 0)) (.cons (.bin .sub (.var 1) (.cst (.int 1))) .nil))))) (.ix (.var 2) (.var 3)))
 (.seq (.ret (.cst (.bl false)))
 .nil)
 .nil)
 (.seq (.setIx (.var 2) (.var 3) (.cst (.bl true)))
 .nil)))
 (.seq (.ret (.cst (.bl true)))
 .nil))))⟩
/-- 5 is_state_of: n value -/
def f5 : Fn := ⟨true, 2, 2,
 (.seq (.ret (.call 1 (.cons (.var 1) (.cons (.cst (.int 0)) (.cons (.bin .sub (.bin .shl (.cst (.int 1)) (.var 0)) (.cst (.int 1))) .nil)))))
 .nil)⟩
/-- 6 is_set_of: n value -/
def f6 : Fn := ⟨true, 2, 2,
 (.seq (.ret (.call 3 (.cons (.var 1) (.cons (.cst (.int 0)) (.cons (.bin .sub (.bin .shl (.cst (.int 1)) (.var 0)) (.cst (.int 1))) .nil)))))
 .nil)⟩
/-- 7 ink_of: state count -/
def f7 : Fn := ⟨true, 1, 2,
 (.seq (.set (.var 1) (.cst (.int 0)))
 (.seq (.whil (.cmp .gt (.var 0) (.cst (.int 0)))
 (.seq (.aug 1 .add (.bin .band (.var 0) (.cst (.int 1))))
 (.seq (.aug 0 .shr (.cst (.int 1)))
 .nil)))
 (.seq (.ret (.var 1))
 .nil)))⟩
/-- 8 cells_in: state cells cell -/
def f8 : Fn := ⟨false, 1, 3,
 (.seq (.new 1 (.lst .nil))
 (.seq (.set (.var 2) (.cst (.int 0)))
 (.seq (.whil (.cmp .gt (.bin .shr (.var 0) (.var 2)) (.cst (.int 0)))
 (.seq (.ite (.cmp .eq (.bin .band (.bin .shr (.var 0) (.var 2)) (.cst (.int 1))) (.cst (.int 1)))
 (.seq (.app (.var 1) (.var 2))
 .nil)
 .nil)
 (.seq (.aug 2 .add (.cst (.int 1)))
 .nil)))
 (.seq (.ret (.prim .tuple (.cons (.var 1) .nil)))
 .nil))))⟩
/-- 9 state_with: cells state cell -/
def f9 : Fn := ⟨true, 1, 3,
 (.seq (.set (.var 1) (.cst (.int 0)))
 (.seq (.for (.var 2) (.var 0)
 (.seq (.aug 1 .bor (.bin .shl (.cst (.int 1)) (.var 2)))
 .nil))
 (.seq (.ret (.var 1))
 .nil)))⟩
/-- 10 grows_to: one other -/
def f10 : Fn := ⟨true, 2, 2,
 (.seq (.ret (.cmp .eq (.bin .band (.var 0) (.var 1)) (.var 0)))
 .nil)⟩
/-- 11 states_over: n state other -/
def f11 : Fn := ⟨true, 2, 3,
 (.seq (.ret (.prim .tuple (.cons (.comp (.var 2) [2] (.var 2) (.prim .range1 (.cons (.bin .shl (.cst (.int 1)) (.var 0)) .nil)) (.call 10 (.cons (.var 1) (.cons (.var 2) .nil)))) .nil)))
 .nil)⟩
/-- 12 states_under: n state other -/
def f12 : Fn := ⟨true, 2, 3,
 (.seq (.ret (.prim .tuple (.cons (.comp (.var 2) [2] (.var 2) (.prim .range1 (.cons (.bin .shl (.cst (.int 1)) (.var 0)) .nil)) (.call 10 (.cons (.var 2) (.cons (.var 1) .nil)))) .nil)))
 .nil)⟩
/-- 13 moved_by: state seats moved cell seat -/
def f13 : Fn := ⟨true, 2, 5,
 (.seq (.set (.var 2) (.cst (.int 0)))
 (.seq (.for (.tup (.cons (.var 3) (.cons (.var 4) .nil))) (.enumE (.var 1))
 (.seq (.ite (.cmp .eq (.bin .band (.bin .shr (.var 0) (.var 3)) (.cst (.int 1))) (.cst (.int 1)))
 (.seq (.aug 2 .bor (.bin .shl (.cst (.int 1)) (.var 4)))
 .nil)
 .nil)
 .nil))
 (.seq (.ret (.var 2))
 .nil)))⟩
/-- 14 check_count: n -/
def f14 : Fn := ⟨true, 1, 1,
 (.seq (.ite (.not (.call 1 (.cons (.var 0) (.cons (.cst (.int 1)) (.cons (.cst (.int 12)) .nil)))))
 (.seq .bad
 .nil)
 .nil)
 .nil)⟩
/-- 15 check_state: n state at -/
def f15 : Fn := ⟨true, 3, 3,
 (.seq (.ite (.not (.call 5 (.cons (.var 0) (.cons (.var 1) .nil))))
 (.seq .bad
 .nil)
 .nil)
 .nil)⟩
/-- 16 check_two: n one other -/
def f16 : Fn := ⟨true, 3, 3,
 (.seq (.expr (.call 14 (.cons (.var 0) .nil)))
 (.seq (.expr (.call 15 (.cons (.var 0) (.cons (.var 1) (.cons (.cst (.int 2)) .nil)))))
 (.seq (.expr (.call 15 (.cons (.var 0) (.cons (.var 2) (.cons (.cst (.int 3)) .nil)))))
 .nil)))⟩
/-- 17 check_set: n states -/
def f17 : Fn := ⟨true, 2, 2,
 (.seq (.expr (.call 14 (.cons (.var 0) .nil)))
 (.seq (.ite (.not (.call 6 (.cons (.var 0) (.cons (.var 1) .nil))))
 (.seq .bad
 .nil)
 .nil)
 .nil))⟩
/-- 18 is_state: n value -/
def f18 : Fn := ⟨true, 2, 2,
 (.seq (.expr (.call 14 (.cons (.var 0) .nil)))
 (.seq (.ret (.call 5 (.cons (.var 0) (.cons (.var 1) .nil))))
 .nil))⟩
/-- 19 inked: n state -/
def f19 : Fn := ⟨true, 2, 2,
 (.seq (.expr (.call 14 (.cons (.var 0) .nil)))
 (.seq (.expr (.call 15 (.cons (.var 0) (.cons (.var 1) (.cons (.cst (.int 2)) .nil)))))
 (.seq (.ret (.call 8 (.cons (.var 1) .nil)))
 .nil)))⟩
/-- 20 ink: n state -/
def f20 : Fn := ⟨true, 2, 2,
 (.seq (.expr (.call 14 (.cons (.var 0) .nil)))
 (.seq (.expr (.call 15 (.cons (.var 0) (.cons (.var 1) (.cons (.cst (.int 2)) .nil)))))
 (.seq (.ret (.call 7 (.cons (.var 1) .nil)))
 .nil)))⟩
/-- 21 state_of: n cells -/
def f21 : Fn := ⟨true, 2, 2,
 (.seq (.expr (.call 14 (.cons (.var 0) .nil)))
 (.seq (.ite (.not (.call 3 (.cons (.var 1) (.cons (.cst (.int 0)) (.cons (.bin .sub (.var 0) (.cst (.int 1))) .nil)))))
 (.seq .bad
 .nil)
 .nil)
 (.seq (.ret (.call 9 (.cons (.var 1) .nil)))
 .nil)))⟩
/-- 22 grows: n one other -/
def f22 : Fn := ⟨true, 3, 3,
 (.seq (.expr (.call 16 (.cons (.var 0) (.cons (.var 1) (.cons (.var 2) .nil)))))
 (.seq (.ret (.call 10 (.cons (.var 1) (.cons (.var 2) .nil))))
 .nil))⟩
/-- 23 above: n state -/
def f23 : Fn := ⟨true, 2, 2,
 (.seq (.expr (.call 14 (.cons (.var 0) .nil)))
 (.seq (.expr (.call 15 (.cons (.var 0) (.cons (.var 1) (.cons (.cst (.int 2)) .nil)))))
 (.seq (.ret (.call 11 (.cons (.var 0) (.cons (.var 1) .nil))))
 .nil)))⟩
/-- 24 below: n state -/
def f24 : Fn := ⟨true, 2, 2,
 (.seq (.expr (.call 14 (.cons (.var 0) .nil)))
 (.seq (.expr (.call 15 (.cons (.var 0) (.cons (.var 1) (.cons (.cst (.int 2)) .nil)))))
 (.seq (.ret (.call 12 (.cons (.var 0) (.cons (.var 1) .nil))))
 .nil)))⟩
/-- 25 between: n one other state -/
def f25 : Fn := ⟨true, 3, 4,
 (.seq (.expr (.call 16 (.cons (.var 0) (.cons (.var 1) (.cons (.var 2) .nil)))))
 (.seq (.ret (.prim .tuple (.cons (.comp (.var 3) [3] (.var 3) (.call 11 (.cons (.var 0) (.cons (.var 1) .nil))) (.call 10 (.cons (.var 3) (.cons (.var 2) .nil)))) .nil)))
 .nil))⟩
/-- 26 both: n one other -/
def f26 : Fn := ⟨true, 3, 3,
 (.seq (.expr (.call 16 (.cons (.var 0) (.cons (.var 1) (.cons (.var 2) .nil)))))
 (.seq (.ret (.bin .bor (.var 1) (.var 2)))
 .nil))⟩
/-- 27 shared: n one other -/
def f27 : Fn := ⟨true, 3, 3,
 (.seq (.expr (.call 16 (.cons (.var 0) (.cons (.var 1) (.cons (.var 2) .nil)))))
 (.seq (.ret (.bin .band (.var 1) (.var 2)))
 .nil))⟩
/-- 28 alone: n one other -/
def f28 : Fn := ⟨true, 3, 3,
 (.seq (.expr (.call 16 (.cons (.var 0) (.cons (.var 1) (.cons (.var 2) .nil)))))
 (.seq (.ret (.bin .band (.var 1) (.bin .bxor (.var 1) (.var 2))))
 .nil))⟩
/-- 29 need: n one other -/
def f29 : Fn := ⟨true, 3, 3,
 (.seq (.expr (.call 16 (.cons (.var 0) (.cons (.var 1) (.cons (.var 2) .nil)))))
 (.seq (.ite (.not (.call 10 (.cons (.var 1) (.cons (.var 2) .nil))))
 (.seq (.ret (.cst .none))
 .nil)
 .nil)
 (.seq (.ret (.bin .sub (.call 7 (.cons (.var 2) .nil)) (.call 7 (.cons (.var 1) .nil))))
 .nil)))⟩
/-- 30 ways: n one other -/
def f30 : Fn := ⟨true, 3, 3,
 (.seq (.expr (.call 16 (.cons (.var 0) (.cons (.var 1) (.cons (.var 2) .nil)))))
 (.seq (.ite (.not (.call 10 (.cons (.var 1) (.cons (.var 2) .nil))))
 (.seq (.ret (.cst (.int 0)))
 .nil)
 .nil)
 (.seq (.ret (.prim .factorial (.cons (.call 7 (.cons (.bin .bxor (.var 1) (.var 2)) .nil)) .nil)))
 .nil)))⟩
/-- 31 way: n one other states cell -/
def f31 : Fn := ⟨false, 3, 5,
 (.seq (.expr (.call 16 (.cons (.var 0) (.cons (.var 1) (.cons (.var 2) .nil)))))
 (.seq (.ite (.not (.call 10 (.cons (.var 1) (.cons (.var 2) .nil))))
 (.seq (.ret (.cst .none))
 .nil)
 .nil)
 (.seq (.new 3 (.lst (.cons (.var 1) .nil)))
 (.seq (.for (.var 4) (.call 8 (.cons (.bin .bxor (.var 1) (.var 2)) .nil))
 (.seq (.app (.var 3) (.bin .bor (.ix (.var 3) (.neg (.cst (.int 1)))) (.bin .shl (.cst (.int 1)) (.var 4))))
 .nil))
 (.seq (.ret (.prim .tuple (.cons (.var 3) .nil)))
 .nil)))))⟩
/-- 32 moved: n state seats -/
def f32 : Fn := ⟨true, 3, 3,
 (.seq (.expr (.call 14 (.cons (.var 0) .nil)))
 (.seq (.expr (.call 15 (.cons (.var 0) (.cons (.var 1) (.cons (.cst (.int 2)) .nil)))))
 (.seq (.ite (.not (.call 4 (.cons (.var 2) (.cons (.var 0) .nil))))
 (.seq .bad
 .nil)
 .nil)
 (.seq (.ret (.call 13 (.cons (.var 1) (.cons (.var 2) .nil))))
 .nil))))⟩
/-- 33 turned: n state -/
def f33 : Fn := ⟨true, 2, 2,
 (.seq (.expr (.call 14 (.cons (.var 0) .nil)))
 (.seq (.expr (.call 15 (.cons (.var 0) (.cons (.var 1) (.cons (.cst (.int 2)) .nil)))))
 (.seq (.ret (.bin .bxor (.var 1) (.bin .sub (.bin .shl (.cst (.int 1)) (.var 0)) (.cst (.int 1)))))
 .nil)))⟩
/-- 34 is_set: n value -/
def f34 : Fn := ⟨true, 2, 2,
 (.seq (.expr (.call 14 (.cons (.var 0) .nil)))
 (.seq (.ret (.call 6 (.cons (.var 0) (.cons (.var 1) .nil))))
 .nil))⟩
/-- 35 counts_under: n states counts state cell -/
def f35 : Fn := ⟨false, 2, 5,
 (.seq (.new 2 (.bin .mul (.lst (.cons (.cst (.int 0)) .nil)) (.bin .shl (.cst (.int 1)) (.var 0))))
 (.seq (.for (.var 3) (.var 1)
 (.seq (.setIx (.var 2) (.var 3) (.cst (.int 1)))
 .nil))
 (.seq (.for (.var 4) (.prim .range1 (.cons (.var 0) .nil))
 (.seq (.for (.var 3) (.prim .range1 (.cons (.bin .shl (.cst (.int 1)) (.var 0)) .nil))
 (.seq (.ite (.cmp .eq (.bin .band (.bin .shr (.var 3) (.var 4)) (.cst (.int 1))) (.cst (.int 1)))
 (.seq (.augIx (.var 2) (.var 3) .add (.ix (.var 2) (.bin .bxor (.var 3) (.bin .shl (.cst (.int 1)) (.var 4)))))
 .nil)
 .nil)
 .nil))
 .nil))
 (.seq (.ret (.var 2))
 .nil))))⟩
/-- 36 counts_over: n states last turned_counts state -/
def f36 : Fn := ⟨true, 2, 5,
 (.seq (.set (.var 2) (.bin .sub (.bin .shl (.cst (.int 1)) (.var 0)) (.cst (.int 1))))
 (.seq (.set (.var 3) (.call 35 (.cons (.var 0) (.cons (.comp (.bin .bxor (.var 2) (.var 4)) [4] (.var 4) (.var 1) (.cst (.bl true))) .nil))))
 (.seq (.ret (.comp (.ix (.var 3) (.bin .bxor (.var 2) (.var 4))) [4] (.var 4) (.prim .range1 (.cons (.bin .shl (.cst (.int 1)) (.var 0)) .nil)) (.cst (.bl true))))
 .nil)))⟩
/-- 37 lowest: n states counts state -/
def f37 : Fn := ⟨true, 2, 4,
 (.seq (.expr (.call 17 (.cons (.var 0) (.cons (.var 1) .nil))))
 (.seq (.set (.var 2) (.call 35 (.cons (.var 0) (.cons (.var 1) .nil))))
 (.seq (.ret (.prim .tuple (.cons (.comp (.var 3) [3] (.var 3) (.var 1) (.cmp .eq (.ix (.var 2) (.var 3)) (.cst (.int 1)))) .nil)))
 .nil)))⟩
/-- 38 highest: n states counts state -/
def f38 : Fn := ⟨true, 2, 4,
 (.seq (.expr (.call 17 (.cons (.var 0) (.cons (.var 1) .nil))))
 (.seq (.set (.var 2) (.call 36 (.cons (.var 0) (.cons (.var 1) .nil))))
 (.seq (.ret (.prim .tuple (.cons (.comp (.var 3) [3] (.var 3) (.var 1) (.cmp .eq (.ix (.var 2) (.var 3)) (.cst (.int 1)))) .nil)))
 .nil)))⟩
/-- 39 grown: n states counts state -/
def f39 : Fn := ⟨true, 2, 4,
 (.seq (.expr (.call 17 (.cons (.var 0) (.cons (.var 1) .nil))))
 (.seq (.set (.var 2) (.call 35 (.cons (.var 0) (.cons (.var 1) .nil))))
 (.seq (.ret (.prim .tuple (.cons (.comp (.var 3) [3] (.var 3) (.prim .range1 (.cons (.bin .shl (.cst (.int 1)) (.var 0)) .nil)) (.cmp .gt (.ix (.var 2) (.var 3)) (.cst (.int 0)))) .nil)))
 .nil)))⟩
/-- 40 shrunk: n states counts state -/
def f40 : Fn := ⟨true, 2, 4,
 (.seq (.expr (.call 17 (.cons (.var 0) (.cons (.var 1) .nil))))
 (.seq (.set (.var 2) (.call 36 (.cons (.var 0) (.cons (.var 1) .nil))))
 (.seq (.ret (.prim .tuple (.cons (.comp (.var 3) [3] (.var 3) (.prim .range1 (.cons (.bin .shl (.cst (.int 1)) (.var 0)) .nil)) (.cmp .gt (.ix (.var 2) (.var 3)) (.cst (.int 0)))) .nil)))
 .nil)))⟩
/-- 41 least_over: n states found state -/
def f41 : Fn := ⟨true, 2, 4,
 (.seq (.expr (.call 17 (.cons (.var 0) (.cons (.var 1) .nil))))
 (.seq (.set (.var 2) (.cst (.int 0)))
 (.seq (.for (.var 3) (.var 1)
 (.seq (.aug 2 .bor (.var 3))
 .nil))
 (.seq (.ret (.var 2))
 .nil))))⟩
/-- 42 most_under: n states found state -/
def f42 : Fn := ⟨true, 2, 4,
 (.seq (.expr (.call 17 (.cons (.var 0) (.cons (.var 1) .nil))))
 (.seq (.set (.var 2) (.bin .sub (.bin .shl (.cst (.int 1)) (.var 0)) (.cst (.int 1))))
 (.seq (.for (.var 3) (.var 1)
 (.seq (.aug 2 .band (.var 3))
 .nil))
 (.seq (.ret (.var 2))
 .nil))))⟩
/-- 43 _law_numbers: script place many cell numbers rest_o k mixed -/
def f43 : Fn := ⟨false, 3, 8,
 (.seq (.set (.var 3) (.ite (.cmp .lt (.var 1) (.prim .len (.cons (.var 0) .nil))) (.ix (.var 0) (.var 1)) (.cst (.int 0))))
 (.seq (.new 4 (.lst .nil))
 (.seq (.set (.var 5) (.var 3))
 (.seq (.for (.var 6) (.prim .range1 (.cons (.var 2) .nil))
 (.seq (.ite (.cmp .ge (.var 3) (.bin .pow (.cst (.int 10)) (.cst (.int 18))))
 (.seq (.app (.var 4) (.bin .mod (.prim .int (.cons (.var 5) .nil)) (.bin .pow (.cst (.int 10)) (.cst (.int 9)))))
 (.seq (.set (.var 5) (.bin .fdiv (.var 5) (.bin .pow (.cst (.int 10)) (.cst (.int 9)))))
 .nil))
 (.seq (.set (.var 7) (.bin .mod (.prim .int (.cons (.bin .add (.bin .add (.bin .mul (.var 3) (.cst (.int 48271))) (.bin .mul (.bin .add (.var 6) (.cst (.int 1))) (.cst (.int 69621)))) (.var 1)) .nil)) (.cst (.int 2147483647))))
 (.seq (.app (.var 4) (.bin .mod (.bin .mod (.prim .int (.cons (.bin .add (.bin .mul (.var 7) (.cst (.int 16807))) (.bin .mul (.bin .add (.var 6) (.cst (.int 3))) (.cst (.int 40692)))) .nil)) (.cst (.int 2147483399))) (.bin .pow (.cst (.int 10)) (.cst (.int 9)))))
 .nil)))
 .nil))
 (.seq (.ret (.var 4))
 .nil)))))⟩
/-- 44 _law_draw: state many -/
def f44 : Fn := ⟨true, 2, 2,
 (.seq (.setIx (.var 0) (.cst (.int 0)) (.bin .mod (.prim .int (.cons (.bin .add (.bin .mul (.ix (.var 0) (.cst (.int 0))) (.cst (.int 48271))) (.cst (.int 12345))) .nil)) (.cst (.int 2147483647))))
 (.seq (.ret (.bin .mod (.prim .int (.cons (.bin .fdiv (.ix (.var 0) (.cst (.int 0))) (.cst (.int 11))) .nil)) (.var 1)))
 .nil))⟩
/-- 45 _law_same: actual due k -/
def f45 : Fn := ⟨true, 2, 3,
 (.seq (.ite (.or (.prim .istuple (.cons (.var 0) .nil)) (.prim .istuple (.cons (.var 1) .nil)))
 (.seq (.ite (.or (.not (.prim .istuple (.cons (.var 0) .nil))) (.or (.not (.prim .istuple (.cons (.var 1) .nil))) (.cmp .ne (.prim .len (.cons (.var 0) .nil)) (.prim .len (.cons (.var 1) .nil)))))
 (.seq (.ret (.cst (.bl false)))
 .nil)
 .nil)
 (.seq (.ret (.prim .all (.cons (.comp (.call 45 (.cons (.ix (.var 0) (.var 2)) (.cons (.ix (.var 1) (.var 2)) .nil))) [2] (.var 2) (.prim .range1 (.cons (.prim .len (.cons (.var 1) .nil)) .nil)) (.cst (.bl true))) .nil)))
 .nil))
 .nil)
 (.seq (.ite (.or (.cmp .is (.var 0) (.cst .none)) (.cmp .is (.var 1) (.cst .none)))
 (.seq (.ret (.and (.cmp .is (.var 0) (.cst .none)) (.cmp .is (.var 1) (.cst .none))))
 .nil)
 .nil)
 (.seq (.ite (.or (.cmp .ne (.prim .isbool (.cons (.var 0) .nil)) (.prim .isbool (.cons (.var 1) .nil))) (.cmp .ne (.prim .isstr (.cons (.var 0) .nil)) (.prim .isstr (.cons (.var 1) .nil))))
 (.seq (.ret (.cst (.bl false)))
 .nil)
 .nil)
 (.seq (.ret (.and (.prim .isintstr (.cons (.var 0) .nil)) (.cmp .eq (.var 0) (.var 1))))
 .nil))))⟩
/-- 46 _law_cells: n state k -/
def f46 : Fn := ⟨true, 2, 3,
 (.seq (.ret (.comp (.var 2) [2] (.var 2) (.prim .range1 (.cons (.var 0) .nil)) (.cmp .eq (.bin .mod (.prim .int (.cons (.bin .fdiv (.var 1) (.ix (.tup (.cons (.cst (.int 1)) (.cons (.cst (.int 2)) (.cons (.cst (.int 4)) (.cons (.cst (.int 8)) (.cons (.cst (.int 16)) (.cons (.cst (.int 32)) (.cons (.cst (.int 64)) (.cons (.cst (.int 128)) (.cons (.cst (.int 256)) (.cons (.cst (.int 512)) (.cons (.cst (.int 1024)) (.cons (.cst (.int 2048)) .nil))))))))))))) (.var 2))) .nil)) (.cst (.int 2))) (.cst (.int 1)))))
 .nil)⟩
/-- 47 _law_state: cells k -/
def f47 : Fn := ⟨true, 1, 2,
 (.seq (.ret (.prim .sum (.cons (.comp (.ix (.tup (.cons (.cst (.int 1)) (.cons (.cst (.int 2)) (.cons (.cst (.int 4)) (.cons (.cst (.int 8)) (.cons (.cst (.int 16)) (.cons (.cst (.int 32)) (.cons (.cst (.int 64)) (.cons (.cst (.int 128)) (.cons (.cst (.int 256)) (.cons (.cst (.int 512)) (.cons (.cst (.int 1024)) (.cons (.cst (.int 2048)) .nil))))))))))))) (.var 1)) [1] (.var 1) (.var 0) (.cst (.bl true))) .nil)))
 .nil)⟩
/-- 48 _law_grows: n one other there k -/
def f48 : Fn := ⟨true, 3, 5,
 (.seq (.set (.var 3) (.call 46 (.cons (.var 0) (.cons (.var 2) .nil))))
 (.seq (.ret (.prim .all (.cons (.comp (.cmp .isin (.var 4) (.var 3)) [4] (.var 4) (.call 46 (.cons (.var 0) (.cons (.var 1) .nil))) (.cst (.bl true))) .nil)))
 .nil))⟩
/-- 49 _law_all: n -/
def f49 : Fn := ⟨true, 1, 1,
 (.seq (.ret (.prim .lrange2 (.cons (.cst (.int 0)) (.cons (.ix (.tup (.cons (.cst (.int 1)) (.cons (.cst (.int 2)) (.cons (.cst (.int 4)) (.cons (.cst (.int 8)) (.cons (.cst (.int 16)) (.cons (.cst (.int 32)) (.cons (.cst (.int 64)) (.cons (.cst (.int 128)) (.cons (.cst (.int 256)) (.cons (.cst (.int 512)) (.cons (.cst (.int 1024)) (.cons (.cst (.int 2048)) (.cons (.cst (.int 4096)) .nil)))))))))))))) (.var 0)) .nil))))
 .nil)⟩
/-- 50 _law_seats: state n rows k j -/
def f50 : Fn := ⟨true, 2, 5,
 (.seq (.set (.var 2) (.prim .lrange1 (.cons (.var 1) .nil)))
 (.seq (.for (.var 3) (.prim .range1 (.cons (.var 1) .nil))
 (.seq (.set (.var 4) (.bin .add (.var 3) (.call 44 (.cons (.var 0) (.cons (.bin .sub (.var 1) (.var 3)) .nil)))))
 (.seq (.set (.var 2) (.bin .add (.bin .add (.bin .add (.slc (.var 2) (.cst .none) (.var 3)) (.lst (.cons (.ix (.var 2) (.var 4)) .nil))) (.slc (.var 2) (.var 3) (.var 4))) (.slc (.var 2) (.bin .add (.var 4) (.cst (.int 1))) (.cst .none))))
 .nil)))
 (.seq (.ret (.prim .tuple (.cons (.var 2) .nil)))
 .nil)))⟩
/-- 51 _law_two: n one other first second grow k s more_o count_o steps -/
def f51 : Fn := ⟨false, 3, 11,
 (.seq (.set (.tup (.cons (.var 3) (.cons (.var 4) .nil))) (.tup (.cons (.call 46 (.cons (.var 0) (.cons (.var 1) .nil))) (.cons (.call 46 (.cons (.var 0) (.cons (.var 2) .nil))) .nil))))
 (.seq (.set (.var 5) (.call 48 (.cons (.var 0) (.cons (.var 1) (.cons (.var 2) .nil)))))
 (.seq (.ite (.or (.not (.call 45 (.cons (.call 22 (.cons (.var 0) (.cons (.var 1) (.cons (.var 2) .nil)))) (.cons (.var 5) .nil)))) (.or (.not (.call 45 (.cons (.call 19 (.cons (.var 0) (.cons (.var 1) .nil))) (.cons (.prim .tuple (.cons (.var 3) .nil)) .nil)))) (.not (.call 45 (.cons (.call 20 (.cons (.var 0) (.cons (.var 1) .nil))) (.cons (.prim .len (.cons (.var 3) .nil)) .nil))))))
 (.seq (.ret (.cst (.bl false)))
 .nil)
 .nil)
 (.seq (.ite (.or (.not (.call 45 (.cons (.call 26 (.cons (.var 0) (.cons (.var 1) (.cons (.var 2) .nil)))) (.cons (.call 47 (.cons (.prim .sortedSet (.cons (.bin .add (.var 3) (.var 4)) .nil)) .nil)) .nil)))) (.not (.call 45 (.cons (.call 27 (.cons (.var 0) (.cons (.var 1) (.cons (.var 2) .nil)))) (.cons (.call 47 (.cons (.comp (.var 6) [6] (.var 6) (.var 3) (.cmp .isin (.var 6) (.var 4))) .nil)) .nil)))))
 (.seq (.ret (.cst (.bl false)))
 .nil)
 .nil)
 (.seq (.ite (.or (.not (.call 45 (.cons (.call 28 (.cons (.var 0) (.cons (.var 1) (.cons (.var 2) .nil)))) (.cons (.call 47 (.cons (.comp (.var 6) [6] (.var 6) (.var 3) (.cmp .notin (.var 6) (.var 4))) .nil)) .nil)))) (.not (.call 45 (.cons (.call 21 (.cons (.var 0) (.cons (.var 3) .nil))) (.cons (.var 1) .nil)))))
 (.seq (.ret (.cst (.bl false)))
 .nil)
 .nil)
 (.seq (.ite (.not (.call 45 (.cons (.call 23 (.cons (.var 0) (.cons (.var 1) .nil))) (.cons (.prim .tuple (.cons (.comp (.var 7) [7] (.var 7) (.call 49 (.cons (.var 0) .nil)) (.call 48 (.cons (.var 0) (.cons (.var 1) (.cons (.var 7) .nil))))) .nil)) .nil))))
 (.seq (.ret (.cst (.bl false)))
 .nil)
 .nil)
 (.seq (.ite (.not (.call 45 (.cons (.call 24 (.cons (.var 0) (.cons (.var 1) .nil))) (.cons (.prim .tuple (.cons (.comp (.var 7) [7] (.var 7) (.call 49 (.cons (.var 0) .nil)) (.call 48 (.cons (.var 0) (.cons (.var 7) (.cons (.var 1) .nil))))) .nil)) .nil))))
 (.seq (.ret (.cst (.bl false)))
 .nil)
 .nil)
 (.seq (.ite (.not (.call 45 (.cons (.call 25 (.cons (.var 0) (.cons (.var 1) (.cons (.var 2) .nil)))) (.cons (.prim .tuple (.cons (.comp (.var 7) [7] (.var 7) (.call 49 (.cons (.var 0) .nil)) (.and (.call 48 (.cons (.var 0) (.cons (.var 1) (.cons (.var 7) .nil)))) (.call 48 (.cons (.var 0) (.cons (.var 7) (.cons (.var 2) .nil)))))) .nil)) .nil))))
 (.seq (.ret (.cst (.bl false)))
 .nil)
 .nil)
 (.seq (.set (.var 8) (.comp (.var 6) [6] (.var 6) (.var 4) (.cmp .notin (.var 6) (.var 3))))
 (.seq (.par 9 false 10 true (.cst (.int 1)) (.lst (.cons (.var 1) .nil)))
 (.seq (.for (.var 6) (.prim .range1 (.cons (.prim .len (.cons (.var 8) .nil)) .nil))
 (.seq (.set (.var 9) (.bin .mul (.var 9) (.bin .add (.var 6) (.cst (.int 1)))))
 (.seq (.app (.var 10) (.call 47 (.cons (.bin .add (.var 3) (.slc (.var 8) (.cst .none) (.bin .add (.var 6) (.cst (.int 1))))) .nil)))
 .nil)))
 (.seq (.ite (.or (.not (.call 45 (.cons (.call 29 (.cons (.var 0) (.cons (.var 1) (.cons (.var 2) .nil)))) (.cons (.ite (.var 5) (.prim .len (.cons (.var 8) .nil)) (.cst .none)) .nil)))) (.not (.call 45 (.cons (.call 30 (.cons (.var 0) (.cons (.var 1) (.cons (.var 2) .nil)))) (.cons (.ite (.var 5) (.var 9) (.cst (.int 0))) .nil)))))
 (.seq (.ret (.cst (.bl false)))
 .nil)
 .nil)
 (.seq (.ret (.and (.call 45 (.cons (.call 31 (.cons (.var 0) (.cons (.var 1) (.cons (.var 2) .nil)))) (.cons (.ite (.var 5) (.prim .tuple (.cons (.var 10) .nil)) (.cst .none)) .nil))) (.call 45 (.cons (.call 33 (.cons (.var 0) (.cons (.var 1) .nil))) (.cons (.call 47 (.cons (.comp (.var 6) [6] (.var 6) (.prim .range1 (.cons (.var 0) .nil)) (.cmp .notin (.var 6) (.var 3))) .nil)) .nil)))))
 .nil)))))))))))))⟩
/-- 52 _law_set: n states low s t high over k under -/
def f52 : Fn := ⟨true, 2, 9,
 (.seq (.set (.var 2) (.comp (.var 3) [3] (.var 3) (.var 1) (.not (.comp (.var 4) [4] (.var 4) (.var 1) (.and (.cmp .ne (.var 4) (.var 3)) (.call 48 (.cons (.var 0) (.cons (.var 4) (.cons (.var 3) .nil)))))))))
 (.seq (.set (.var 5) (.comp (.var 3) [3] (.var 3) (.var 1) (.not (.comp (.var 4) [4] (.var 4) (.var 1) (.and (.cmp .ne (.var 4) (.var 3)) (.call 48 (.cons (.var 0) (.cons (.var 3) (.cons (.var 4) .nil)))))))))
 (.seq (.ite (.or (.not (.call 45 (.cons (.call 34 (.cons (.var 0) (.cons (.var 1) .nil))) (.cons (.cst (.bl true)) .nil)))) (.or (.not (.call 45 (.cons (.call 37 (.cons (.var 0) (.cons (.var 1) .nil))) (.cons (.prim .tuple (.cons (.var 2) .nil)) .nil)))) (.not (.call 45 (.cons (.call 38 (.cons (.var 0) (.cons (.var 1) .nil))) (.cons (.prim .tuple (.cons (.var 5) .nil)) .nil))))))
 (.seq (.ret (.cst (.bl false)))
 .nil)
 .nil)
 (.seq (.ite (.not (.call 45 (.cons (.call 39 (.cons (.var 0) (.cons (.var 1) .nil))) (.cons (.prim .tuple (.cons (.comp (.var 3) [3] (.var 3) (.call 49 (.cons (.var 0) .nil)) (.comp (.var 4) [4] (.var 4) (.var 1) (.call 48 (.cons (.var 0) (.cons (.var 4) (.cons (.var 3) .nil)))))) .nil)) .nil))))
 (.seq (.ret (.cst (.bl false)))
 .nil)
 .nil)
 (.seq (.ite (.not (.call 45 (.cons (.call 40 (.cons (.var 0) (.cons (.var 1) .nil))) (.cons (.prim .tuple (.cons (.comp (.var 3) [3] (.var 3) (.call 49 (.cons (.var 0) .nil)) (.comp (.var 4) [4] (.var 4) (.var 1) (.call 48 (.cons (.var 0) (.cons (.var 3) (.cons (.var 4) .nil)))))) .nil)) .nil))))
 (.seq (.ret (.cst (.bl false)))
 .nil)
 .nil)
 (.seq (.set (.var 6) (.comp (.var 7) [7] (.var 7) (.prim .range1 (.cons (.var 0) .nil)) (.comp (.var 3) [3] (.var 3) (.var 1) (.cmp .isin (.var 7) (.call 46 (.cons (.var 0) (.cons (.var 3) .nil)))))))
 (.seq (.set (.var 8) (.comp (.var 7) [7] (.var 7) (.prim .range1 (.cons (.var 0) .nil)) (.not (.comp (.var 3) [3] (.var 3) (.var 1) (.cmp .notin (.var 7) (.call 46 (.cons (.var 0) (.cons (.var 3) .nil))))))))
 (.seq (.ret (.and (.call 45 (.cons (.call 41 (.cons (.var 0) (.cons (.var 1) .nil))) (.cons (.call 47 (.cons (.var 6) .nil)) .nil))) (.call 45 (.cons (.call 42 (.cons (.var 0) (.cons (.prim .list (.cons (.var 1) .nil)) .nil))) (.cons (.call 47 (.cons (.var 8) .nil)) .nil)))))
 .nil))))))))⟩
/-- 53 _law_told_once:  -/
def f53 : Fn := ⟨true, 0, 0,
 (.seq (.ite (.or (.not (.call 45 (.cons (.call 23 (.cons (.cst (.int 3)) (.cons (.cst (.int 5)) .nil))) (.cons (.tup (.cons (.cst (.int 5)) (.cons (.cst (.int 7)) .nil))) .nil)))) (.or (.not (.call 45 (.cons (.call 24 (.cons (.cst (.int 3)) (.cons (.cst (.int 5)) .nil))) (.cons (.tup (.cons (.cst (.int 0)) (.cons (.cst (.int 1)) (.cons (.cst (.int 4)) (.cons (.cst (.int 5)) .nil))))) .nil)))) (.or (.not (.call 45 (.cons (.call 30 (.cons (.cst (.int 3)) (.cons (.cst (.int 1)) (.cons (.cst (.int 7)) .nil)))) (.cons (.cst (.int 2)) .nil)))) (.not (.call 45 (.cons (.call 29 (.cons (.cst (.int 3)) (.cons (.cst (.int 2)) (.cons (.cst (.int 5)) .nil)))) (.cons (.cst .none) .nil)))))))
 (.seq (.ret (.cst (.bl false)))
 .nil)
 .nil)
 (.seq (.ret (.and (.call 45 (.cons (.call 32 (.cons (.cst (.int 3)) (.cons (.cst (.int 5)) (.cons (.lst (.cons (.cst (.int 1)) (.cons (.cst (.int 2)) (.cons (.cst (.int 0)) .nil)))) .nil)))) (.cons (.cst (.int 3)) .nil))) (.and (.call 45 (.cons (.call 37 (.cons (.cst (.int 3)) (.cons (.lst (.cons (.cst (.int 1)) (.cons (.cst (.int 2)) (.cons (.cst (.int 3)) (.cons (.cst (.int 6)) .nil))))) .nil))) (.cons (.tup (.cons (.cst (.int 1)) (.cons (.cst (.int 2)) .nil))) .nil))) (.call 45 (.cons (.call 30 (.cons (.cst (.int 12)) (.cons (.cst (.int 0)) (.cons (.cst (.int 4095)) .nil)))) (.cons (.cst (.int 479001600)) .nil))))))
 .nil))⟩
/-- 54 law: script run state n one other seats k states s wrong_o -/
def f54 : Fn := ⟨false, 1, 11,
 (.seq (.ite (.not (.call 53 .nil))
 (.seq (.ret (.cst (.bl false)))
 .nil)
 .nil)
 (.seq (.for (.var 1) (.prim .range1 (.cons (.cst (.int 3)) .nil))
 (.seq (.new 2 (.lst (.cons (.ix (.call 43 (.cons (.var 0) (.cons (.var 1) (.cons (.cst (.int 1)) .nil)))) (.cst (.int 0))) .nil)))
 (.seq (.set (.var 3) (.bin .add (.cst (.int 2)) (.call 44 (.cons (.var 2) (.cons (.cst (.int 5)) .nil)))))
 (.seq (.par 4 false 5 false (.call 44 (.cons (.var 2) (.cons (.prim .len (.cons (.call 49 (.cons (.var 3) .nil)) .nil)) .nil))) (.call 44 (.cons (.var 2) (.cons (.prim .len (.cons (.call 49 (.cons (.var 3) .nil)) .nil)) .nil))))
 (.seq (.ite (.cmp .eq (.call 44 (.cons (.var 2) (.cons (.cst (.int 2)) .nil))) (.cst (.int 0)))
 (.seq (.set (.var 5) (.call 47 (.cons (.prim .sortedSet (.cons (.bin .add (.call 46 (.cons (.var 3) (.cons (.var 4) .nil))) (.call 46 (.cons (.var 3) (.cons (.var 5) .nil)))) .nil)) .nil)))
 .nil)
 .nil)
 (.seq (.set (.var 6) (.call 50 (.cons (.var 2) (.cons (.var 3) .nil))))
 (.seq (.ite (.or (.not (.call 51 (.cons (.var 3) (.cons (.var 4) (.cons (.var 5) .nil))))) (.not (.call 45 (.cons (.call 32 (.cons (.var 3) (.cons (.var 4) (.cons (.var 6) .nil)))) (.cons (.call 47 (.cons (.comp (.ix (.var 6) (.var 7)) [7] (.var 7) (.call 46 (.cons (.var 3) (.cons (.var 4) .nil))) (.cst (.bl true))) .nil)) .nil)))))
 (.seq (.ret (.cst (.bl false)))
 .nil)
 .nil)
 (.seq (.set (.var 8) (.prim .tuple (.cons (.prim .sortedSet (.cons (.comp (.call 44 (.cons (.var 2) (.cons (.prim .len (.cons (.call 49 (.cons (.var 3) .nil)) .nil)) .nil))) [7] (.var 7) (.prim .range1 (.cons (.call 44 (.cons (.var 2) (.cons (.cst (.int 10)) .nil))) .nil)) (.cst (.bl true))) .nil)) .nil)))
 (.seq (.ite (.not (.call 52 (.cons (.var 3) (.cons (.var 8) .nil))))
 (.seq (.ret (.cst (.bl false)))
 .nil)
 .nil)
 (.seq (.ite (.not (.prim .all (.cons (.comp (.call 45 (.cons (.call 18 (.cons (.var 3) (.cons (.var 9) .nil))) (.cons (.cst (.bl true)) .nil))) [9] (.var 9) (.call 49 (.cons (.var 3) .nil)) (.cst (.bl true))) .nil)))
 (.seq (.ret (.cst (.bl false)))
 .nil)
 .nil)
 (.seq (.for (.var 10) (.tup (.cons (.neg (.cst (.int 1))) (.cons (.prim .len (.cons (.call 49 (.cons (.var 3) .nil)) .nil)) (.cons (.cst (.bl true)) (.cons (.cst .none) (.cons (.cst (.str [49])) .nil))))))
 (.seq (.ite (.not (.call 45 (.cons (.call 18 (.cons (.var 3) (.cons (.var 10) .nil))) (.cons (.cst (.bl false)) .nil))))
 (.seq (.ret (.cst (.bl false)))
 .nil)
 .nil)
 .nil))
 (.seq (.for (.var 10) (.tup (.cons (.bin .add (.var 8) (.tup (.cons (.prim .len (.cons (.call 49 (.cons (.var 3) .nil)) .nil)) .nil))) (.cons (.ite (.var 8) (.bin .add (.var 8) (.slc (.var 8) (.neg (.cst (.int 1))) (.cst .none))) (.tup (.cons (.cst (.int 0)) (.cons (.cst (.int 0)) .nil)))) (.cons (.tup (.cons (.cst (.int 1)) (.cons (.cst (.int 0)) .nil))) (.cons (.cst (.int 7)) .nil)))))
 (.seq (.ite (.not (.call 45 (.cons (.call 34 (.cons (.var 3) (.cons (.var 10) .nil))) (.cons (.cst (.bl false)) .nil))))
 (.seq (.ret (.cst (.bl false)))
 .nil)
 .nil)
 .nil))
 .nil))))))))))))
 (.seq (.ret (.cst (.bl true)))
 .nil)))⟩
def T : List Fn := [f0, f1, f2, f3, f4, f5, f6, f7, f8, f9, f10, f11, f12, f13, f14, f15, f16, f17, f18, f19, f20, f21, f22, f23, f24, f25, f26, f27, f28, f29, f30, f31, f32, f33, f34, f35, f36, f37, f38, f39, f40, f41, f42, f43, f44, f45, f46, f47, f48, f49, f50, f51, f52, f53, f54]
end k00
end
section
set_option Elab.async false
set_option linter.all false
set_option maxRecDepth 100000
set_option maxHeartbeats 1000000
namespace Py
/-- the next number of a draw -/
def nxt (s : Int) : Int := (s * 48271 + 12345) % 2147483647
def drawOf (s m : Int) : Int := nxt s / 11 % m
theorem nxt_nn (s : Int) : 0 ≤ nxt s := Int.emod_nonneg _ (by decide)
theorem ilt_t {a b : Int} (h : a < b) : ilt a b = true := by rw [ilt_iff]; exact decide_eq_true h
theorem get_set {st : Store} {l : Nat} {c c' : Cell} (h : st[l]? = some c) : (st.set l c')[l]? = some c' := List.getElem?_set_self (List.getElem?_eq_some_iff.mp h).1
theorem ok_bind {α β : Type} {a : α} {st : Store} {f : α → Store → Out β} : (Out.ok a st).bind f = f a st := rfl
theorem res_int {st : Store} {i : Int} : resolve st (.int i) = .int i := rfl
theorem res_loc {st : Store} {l : Nat} {c : Cell} (h : st[l]? = some c) : resolve st (.loc l) = c.d := by simp [resolve, h]
theorem opg_int {st : Store} {i : Int} : opg st (some (.int i)) = .ok (.int i) st := rfl
theorem esc_int {st : Store} {i : Int} : esc st (.int i) = .ok (.int i) st := rfl
theorem opt_some {α : Type} {st : Store} {a : α} : opt st (some a) = .ok a st := rfl
theorem bi_add {a b : Int} : binD .add (.int a) (.int b) = some (.int (a + b)) := rfl
theorem bi_sub {a b : Int} : binD .sub (.int a) (.int b) = some (.int (a - b)) := rfl
theorem bi_mul {a b : Int} (h : sml b = true) : binD .mul (.int a) (.int b) = some (.int (a * b)) := by simp [binD, binI, h]
theorem bi_mod {a b : Int} (h : 0 < b) : binD .mod (.int a) (.int b) = some (.int (a % b)) := by simp [binD, binI, ilt_t h]
theorem bi_div {a b : Int} (h : (ilt 0 b && ilt b 1073741824) = true) : binD .fdiv (.int a) (.int b) = some (.int (a / b)) := by simp only [binD, binI, h, if_true, Option.map_some]
theorem ix0 {x : D} {r : List D} : ixD (.lst (x :: r)) (.int 0) = some x := rfl
theorem p_int {i : Int} : primD .int [.int i] = some (.int i) := rfl
theorem wr_ix0 {st : Store} {l : Nat} {x v : D} {r : List D} (h : st[l]? = some ⟨false, .lst (x :: r)⟩) : wr st (.loc l) (putIx (.int 0) v) = some (st.set l ⟨false, .lst (v :: r)⟩) := by
  simp [wr, h, putIx, idx]
theorem draw_k00 {k : Nat} {l : Nat} {s m : Int} {st : Store} (h : st[l]? = some ⟨false, .lst [.int s]⟩) (hm : 0 < m) :
    callF k00.T (k + 1) 44 [.loc l, .int m] st = .ok (.int (drawOf s m)) (st.set l ⟨false, .lst [.int (nxt s)]⟩) := by
  have h2 : (st.set l ⟨false, .lst [.int (nxt s)]⟩)[l]? = some ⟨false, .lst [.int (nxt s)]⟩ := get_set h
  have e1 : sml 48271 = true := by decide
  have e2 : (0 : Int) < 2147483647 := by decide
  have e3 : (ilt 0 11 && ilt 11 1073741824) = true := by decide
  have T23 : k00.T[44]? = some k00.f44 := rfl
  have b1 := bi_mul (a := s) e1
  have b2 := bi_mod (a := s * 48271 + 12345) e2
  have b3 := bi_div (a := nxt s) e3
  have b4 := bi_mod (a := nxt s / 11) hm
  have r1 := res_loc h
  have r2 := res_loc h2
  have w := wr_ix0 (v := .int (nxt s)) h
  simp only [callF, T23, runFn, k00.f44, List.length_cons, List.length_nil, if_true, evS, evE, evL, start, List.map_cons, List.map_nil, List.cons_append, List.getElem?_cons_zero, List.getElem?_cons_succ, ok_bind, r1, ix0, opg_int, res_int, b1, bi_add, b2, p_int, esc_int]
  simp only [nxt] at w r2 b3 b4 ⊢
  simp only [w, r2, ix0, opg_int, ok_bind, List.getElem?_cons_zero, List.getElem?_cons_succ, res_int, b3, p_int, b4, List.map_cons, List.map_nil, drawOf, nxt]
end Py
end
section
set_option Elab.async false
set_option linter.all false
set_option maxRecDepth 100000
set_option maxHeartbeats 1000000
namespace Py
def cellOf (ns : List Int) (r : Nat) : Int := if h : r < ns.length then ns[r] else 0
def numOf (c : Int) (r : Nat) : Int := if 1000000000000000000 ≤ c then c % 1000000000 else ((c * 48271 + 69621 + Int.ofNat r) % 2147483647 * 16807 + 122076) % 2147483399 % 1000000000
theorem numOf_nn (c : Int) (r : Nat) : 0 ≤ numOf c r := by
  unfold numOf
  split <;> exact Int.emod_nonneg _ (by decide)
theorem cell_step {cf : CallF} {ns : List Int} {r : Nat} {env : Env} {st : Store} (h0 : env[0]? = some (some (.ro (ns.map .int)))) (h1 : env[1]? = some (some (.int (Int.ofNat r)))) :
    evE cf (.ite (.cmp .lt (.var 1) (.prim .len (.cons (.var 0) .nil))) (.ix (.var 0) (.var 1)) (.cst (.int 0))) env st = .ok (.int (cellOf ns r)) st := by
  have hl : (ns.map D.int).length = ns.length := by simp
  have c : cmpD .lt (.int (Int.ofNat r)) (.int (ns.length : Int)) = some (decide (r < ns.length)) := by
    show some (ilt _ _) = _
    rw [ilt_iff]
    simp
  have pl : primD .len [.ro (ns.map .int)] = some (.int (ns.length : Int)) := by
    show some (D.int ((ns.map D.int).length : Int)) = _
    rw [hl]
  simp only [evE, evL, h0, h1, ok_bind, List.map_cons, List.map_nil, resolve, pl, opg_int, c, Option.map_some, opt_some, truth]
  by_cases h : r < ns.length
  · have i : ixD (.ro (ns.map .int)) (.int (Int.ofNat r)) = some (.int ns[r]) := by
      simp [ixD, idx, h]
    simp only [h, decide_true, i, opg_int, cellOf, dif_pos]
  · simp only [h, decide_false, cellOf, dif_neg, not_false_eq_true]
theorem push_get {st : Store} {c : Cell} : (st ++ [c])[st.length]? = some c := by simp
theorem push_set {st : Store} {c c' : Cell} : (st ++ [c]).set st.length c' = st ++ [c'] := by simp
theorem wr_app {st : Store} {l : List D} {v : D} (h : l.length < sizeMax) : wr (st ++ [⟨false, .lst l⟩]) (.loc st.length) (appD v) = some (st ++ [⟨false, .lst (l ++ [v])⟩]) := by
  simp only [wr, push_get, appD, h, if_true, Option.map_some, push_set]
theorem fin_push {st : Store} {l : List D} : Py.fin st.length (st ++ [⟨false, .lst l⟩]) (.loc st.length) = .ok (.lst l) st := by
  simp [Py.fin, resolve, isLoc]
theorem bi_pow {a b : Int} (h : (ile 0 b && ile b 1000 && sml a) = true) : binD .pow (.int a) (.int b) = some (.int (a ^ b.toNat)) := by simp only [binD, binI, h, if_true, Option.map_some]
theorem res_push {st : Store} {c : Cell} : resolve (st ++ [c]) (.loc st.length) = c.d := by simp [resolve]
theorem ge_int {a b : Int} : cmpD .ge (.int a) (.int b) = some (decide (b ≤ a)) := by
  show some (ile b a) = _
  rw [ile_iff]
theorem numbers_k00 {k : Nat} {ns : List Int} {r : Nat} {st : Store} : callF k00.T (k + 1) 43 [.ro (ns.map .int), .int (Int.ofNat r), .int 1] st = .ok (.lst [.int (numOf (cellOf ns r) r)]) st := by
  have T22 : k00.T[43]? = some k00.f43 := rfl
  have cs : ∀ env, env[0]? = some (some (D.ro (ns.map .int))) → env[1]? = some (some (D.int (Int.ofNat r))) → ∀ st, evE (callF k00.T k) (.ite (.cmp .lt (.var 1) (.prim .len (.cons (.var 0) .nil))) (.ix (.var 0) (.var 1)) (.cst (.int 0))) env st = .ok (.int (cellOf ns r)) st := fun env h0 h1 st => cell_step h0 h1
  generalize hc : cellOf ns r = c at cs
  have p18 : binD .pow (.int 10) (.int 18) = some (.int 1000000000000000000) := (bi_pow (by decide)).trans (by rfl)
  have p9 : binD .pow (.int 10) (.int 9) = some (.int 1000000000) := (bi_pow (by decide)).trans (by rfl)
  have rg : primD .range1 [.int 1] = some (.lst [.int 0]) := by rfl
  have m1 := bi_mul (a := c) (b := 48271) (by decide)
  have m2 : binD .mul (.int (0 + 1)) (.int 69621) = some (.int 69621) := (bi_mul (by decide)).trans (by rfl)
  have m3 := bi_mod (a := c * 48271 + 69621 + Int.ofNat r) (b := 2147483647) (by decide)
  have m4 := bi_mul (a := (c * 48271 + 69621 + Int.ofNat r) % 2147483647) (b := 16807) (by decide)
  have m5 : binD .mul (.int (0 + 3)) (.int 40692) = some (.int 122076) := (bi_mul (by decide)).trans (by rfl)
  have m6 := bi_mod (a := (c * 48271 + 69621 + Int.ofNat r) % 2147483647 * 16807 + 122076) (b := 2147483399) (by decide)
  have m7 := bi_mod (a := ((c * 48271 + 69621 + Int.ofNat r) % 2147483647 * 16807 + 122076) % 2147483399) (b := 1000000000) (by decide)
  have m8 := bi_mod (a := c) (b := 1000000000) (by decide)
  have m9 := bi_div (a := c) (b := 1000000000) (by decide)
  have w : ∀ v, wr (st ++ [⟨false, .lst []⟩]) (.loc st.length) (appD v) = some (st ++ [⟨false, .lst [v]⟩]) := fun v => wr_app (by decide)
  have st0 : start 8 [.ro (ns.map .int), .int (Int.ofNat r), .int 1] = [some (.ro (ns.map .int)), some (.int (Int.ofNat r)), some (.int 1), none, none, none, none, none] := rfl
  have l0 : ∀ st env, (evN (callF k00.T k) true (.lst .nil) env st) = .ok (.loc st.length) (st ++ [⟨false, .lst []⟩]) := fun st env => rfl
  simp only [callF, T22, runFn, k00.f43, List.length_cons, List.length_nil, Nat.reduceAdd, if_true, evS, st0, cs, List.getElem?_cons_zero, List.getElem?_cons_succ, ok_bind, List.set_cons_succ, List.set_cons_zero, l0]
  simp only [evE, evL, List.map_cons, List.map_nil, List.getElem?_cons_zero, List.getElem?_cons_succ, ok_bind, res_int, rg, opg, gl, opt_some, srcL, esc, srcOf, forL, setTg, Option.map_some, p18, ge_int, truth, List.set_cons_succ, List.set_cons_zero]
  unfold numOf
  have rb : ∀ b, resolve (st ++ [⟨false, .lst []⟩]) (.bl b) = .bl b := fun b => rfl
  by_cases h : (1000000000000000000 : Int) ≤ c
  · simp only [h, decide_true, if_true, rb, res_push, isLst, ok_bind, p_int, p9, m8, m9, opt_some, gl, res_int, w, fin_push, List.getElem?_cons_zero, List.getElem?_cons_succ, List.map_cons, List.map_nil, esc, List.set_cons_succ, List.set_cons_zero]
  · simp only [h, decide_false, if_false, rb, res_push, isLst, if_true, ok_bind, p_int, p9, m1, m2, m3, m4, m5, m6, m7, bi_add, opt_some, gl, res_int, w, fin_push, List.getElem?_cons_zero, List.getElem?_cons_succ, List.map_cons, List.map_nil, esc, List.set_cons_succ, List.set_cons_zero]
end Py
end
section
set_option Elab.async false
set_option linter.all false
set_option maxRecDepth 100000
set_option maxHeartbeats 1000000
namespace Py
/-- a part of a loop that runs through -/
def forK (f : D → Env → Store → Out Fl) : List D → Env → Store → Out Fl
  | [], env, st => .ok (.nx env) st
  | d :: ds, env, st => (f d env st).bind fun fl st => match fl with
    | .nx env' => forK f ds env' st
    | .ct env' => forK f ds env' st
    | _ => .stuck
theorem forK_app {f : D → Env → Store → Out Fl} : ∀ (l1 l2 : List D) (env env1 : Env) (st st1 : Store), forK f l1 env st = .ok (.nx env1) st1 → forL f (l1 ++ l2) env st = forL f l2 env1 st1
  | [], l2, env, env1, st, st1, h => by
    simp only [forK] at h
    cases h
    try rfl
  | x :: xs, l2, env, env1, st, st1, h => by
    simp only [forK, forL, List.cons_append] at h ⊢
    cases k : f x env st with
    | ok fl s =>
      rw [k] at h
      cases fl with
      | nx env' => exact forK_app xs l2 env' env1 s st1 h
      | ct env' => exact forK_app xs l2 env' env1 s st1 h
      | bk env' => cases h
      | rt d => cases h
    | _ => rw [k] at h; cases h
end Py
end
section
set_option Elab.async false
set_option linter.all false
set_option maxRecDepth 100000
set_option maxHeartbeats 1000000
namespace Py
/-! ### the law's own cells -/
theorem compL_pure {f : D → Store → Out (Option D)} {g : D → Option D} : ∀ (l : List D) (st : Store), (∀ x ∈ l, ∀ st, f x st = .ok (g x) st) → compL f l st = .ok (l.filterMap g) st
  | [], st, h => rfl
  | x :: xs, st, h => by
    simp only [compL, h x List.mem_cons_self st, ok_bind, compL_pure xs st fun y hy => h y (List.mem_cons_of_mem _ hy)]
    cases k : g x with
    | none => rw [List.filterMap_cons_none k]
    | some y => rw [List.filterMap_cons_some k]
def cdC : Ex := match k00.f46.body with | .seq (.ret (.comp _ _ _ _ c)) _ => c | _ => .nil
def gC (s : Nat) : D → Option D
  | .int (.ofNat k) => if Nat.beq (s / 2 ^ k % 2) 1 then some (.int (.ofNat k)) else none
  | _ => none
theorem cC0 (cf : CallF) (a0 : Option D) (s : Nat) (st : Store) : stepC cf (.var 2) [2] (.var 2) cdC [a0, some (.int (.ofNat s)), none] (.int (.ofNat 0)) st = (match Nat.beq (s / 1 % 2) 1 with | true => Out.ok (some (.int (.ofNat 0))) st | false => .ok none st) := by
  kernel_rfl
theorem cC1 (cf : CallF) (a0 : Option D) (s : Nat) (st : Store) : stepC cf (.var 2) [2] (.var 2) cdC [a0, some (.int (.ofNat s)), none] (.int (.ofNat 1)) st = (match Nat.beq (s / 2 % 2) 1 with | true => Out.ok (some (.int (.ofNat 1))) st | false => .ok none st) := by
  kernel_rfl
theorem cC2 (cf : CallF) (a0 : Option D) (s : Nat) (st : Store) : stepC cf (.var 2) [2] (.var 2) cdC [a0, some (.int (.ofNat s)), none] (.int (.ofNat 2)) st = (match Nat.beq (s / 4 % 2) 1 with | true => Out.ok (some (.int (.ofNat 2))) st | false => .ok none st) := by
  kernel_rfl
theorem cC3 (cf : CallF) (a0 : Option D) (s : Nat) (st : Store) : stepC cf (.var 2) [2] (.var 2) cdC [a0, some (.int (.ofNat s)), none] (.int (.ofNat 3)) st = (match Nat.beq (s / 8 % 2) 1 with | true => Out.ok (some (.int (.ofNat 3))) st | false => .ok none st) := by
  kernel_rfl
theorem cC4 (cf : CallF) (a0 : Option D) (s : Nat) (st : Store) : stepC cf (.var 2) [2] (.var 2) cdC [a0, some (.int (.ofNat s)), none] (.int (.ofNat 4)) st = (match Nat.beq (s / 16 % 2) 1 with | true => Out.ok (some (.int (.ofNat 4))) st | false => .ok none st) := by
  kernel_rfl
theorem cC5 (cf : CallF) (a0 : Option D) (s : Nat) (st : Store) : stepC cf (.var 2) [2] (.var 2) cdC [a0, some (.int (.ofNat s)), none] (.int (.ofNat 5)) st = (match Nat.beq (s / 32 % 2) 1 with | true => Out.ok (some (.int (.ofNat 5))) st | false => .ok none st) := by
  kernel_rfl
theorem cC6 (cf : CallF) (a0 : Option D) (s : Nat) (st : Store) : stepC cf (.var 2) [2] (.var 2) cdC [a0, some (.int (.ofNat s)), none] (.int (.ofNat 6)) st = (match Nat.beq (s / 64 % 2) 1 with | true => Out.ok (some (.int (.ofNat 6))) st | false => .ok none st) := by
  kernel_rfl
theorem cC7 (cf : CallF) (a0 : Option D) (s : Nat) (st : Store) : stepC cf (.var 2) [2] (.var 2) cdC [a0, some (.int (.ofNat s)), none] (.int (.ofNat 7)) st = (match Nat.beq (s / 128 % 2) 1 with | true => Out.ok (some (.int (.ofNat 7))) st | false => .ok none st) := by
  kernel_rfl
theorem cC8 (cf : CallF) (a0 : Option D) (s : Nat) (st : Store) : stepC cf (.var 2) [2] (.var 2) cdC [a0, some (.int (.ofNat s)), none] (.int (.ofNat 8)) st = (match Nat.beq (s / 256 % 2) 1 with | true => Out.ok (some (.int (.ofNat 8))) st | false => .ok none st) := by
  kernel_rfl
theorem cC9 (cf : CallF) (a0 : Option D) (s : Nat) (st : Store) : stepC cf (.var 2) [2] (.var 2) cdC [a0, some (.int (.ofNat s)), none] (.int (.ofNat 9)) st = (match Nat.beq (s / 512 % 2) 1 with | true => Out.ok (some (.int (.ofNat 9))) st | false => .ok none st) := by
  kernel_rfl
theorem cC10 (cf : CallF) (a0 : Option D) (s : Nat) (st : Store) : stepC cf (.var 2) [2] (.var 2) cdC [a0, some (.int (.ofNat s)), none] (.int (.ofNat 10)) st = (match Nat.beq (s / 1024 % 2) 1 with | true => Out.ok (some (.int (.ofNat 10))) st | false => .ok none st) := by
  kernel_rfl
theorem cC11 (cf : CallF) (a0 : Option D) (s : Nat) (st : Store) : stepC cf (.var 2) [2] (.var 2) cdC [a0, some (.int (.ofNat s)), none] (.int (.ofNat 11)) st = (match Nat.beq (s / 2048 % 2) 1 with | true => Out.ok (some (.int (.ofNat 11))) st | false => .ok none st) := by
  kernel_rfl
theorem cC (cf : CallF) (a0 : Option D) (s k : Nat) (hk : k < 12) (st : Store) : stepC cf (.var 2) [2] (.var 2) cdC [a0, some (.int (.ofNat s)), none] (.int (.ofNat k)) st = .ok (gC s (.int (.ofNat k))) st := by
  have h : k = 0 ∨ k = 1 ∨ k = 2 ∨ k = 3 ∨ k = 4 ∨ k = 5 ∨ k = 6 ∨ k = 7 ∨ k = 8 ∨ k = 9 ∨ k = 10 ∨ k = 11 := by omega
  rcases h with rfl | rfl | rfl | rfl | rfl | rfl | rfl | rfl | rfl | rfl | rfl | rfl
  · rw [cC0]; simp only [gC, show (2 : Nat) ^ 0 = 1 from by decide]; cases Nat.beq (s / 1 % 2) 1 <;> rfl
  · rw [cC1]; simp only [gC, show (2 : Nat) ^ 1 = 2 from by decide]; cases Nat.beq (s / 2 % 2) 1 <;> rfl
  · rw [cC2]; simp only [gC, show (2 : Nat) ^ 2 = 4 from by decide]; cases Nat.beq (s / 4 % 2) 1 <;> rfl
  · rw [cC3]; simp only [gC, show (2 : Nat) ^ 3 = 8 from by decide]; cases Nat.beq (s / 8 % 2) 1 <;> rfl
  · rw [cC4]; simp only [gC, show (2 : Nat) ^ 4 = 16 from by decide]; cases Nat.beq (s / 16 % 2) 1 <;> rfl
  · rw [cC5]; simp only [gC, show (2 : Nat) ^ 5 = 32 from by decide]; cases Nat.beq (s / 32 % 2) 1 <;> rfl
  · rw [cC6]; simp only [gC, show (2 : Nat) ^ 6 = 64 from by decide]; cases Nat.beq (s / 64 % 2) 1 <;> rfl
  · rw [cC7]; simp only [gC, show (2 : Nat) ^ 7 = 128 from by decide]; cases Nat.beq (s / 128 % 2) 1 <;> rfl
  · rw [cC8]; simp only [gC, show (2 : Nat) ^ 8 = 256 from by decide]; cases Nat.beq (s / 256 % 2) 1 <;> rfl
  · rw [cC9]; simp only [gC, show (2 : Nat) ^ 9 = 512 from by decide]; cases Nat.beq (s / 512 % 2) 1 <;> rfl
  · rw [cC10]; simp only [gC, show (2 : Nat) ^ 10 = 1024 from by decide]; cases Nat.beq (s / 1024 % 2) 1 <;> rfl
  · rw [cC11]; simp only [gC, show (2 : Nat) ^ 11 = 2048 from by decide]; cases Nat.beq (s / 2048 % 2) 1 <;> rfl
def cellsM (m s : Nat) : List D := (rng 0 m).filterMap (gC s)
theorem cells_k00 {k m s : Nat} {st : Store} (hm : m ≤ 12) : callF k00.T (k + 1) 46 [.int (.ofNat m), .int (.ofNat s)] st = .ok (.lst (cellsM m s)) st := by
  have T25 : k00.T[46]? = some k00.f46 := rfl
  have hl : (cellsM m s).length ≤ sizeMax := by
    have h1 : (cellsM m s).length ≤ (rng 0 m).length := List.length_filterMap_le _ _
    rw [rng_len] at h1
    have : sizeMax = 16777216 := rfl
    omega
  have st0 : start 3 [.int (.ofNat m), .int (.ofNat s)] = [some (.int (.ofNat m)), some (.int (.ofNat s)), none] := rfl
  have b : k00.f46.body = .seq (.ret (.comp (.var 2) [2] (.var 2) (.prim .range1 (.cons (.var 0) .nil)) cdC)) .nil := rfl
  have f1 : k00.f46.keep = true := rfl
  have f2 : k00.f46.ps = 2 := rfl
  have f3 : k00.f46.sl = 3 := rfl
  have rg : primD .range1 [.int (.ofNat m)] = some (.lst (rng 0 m)) := by
    show range12 0 (.ofNat m) = _
    have i1 : in62 0 = true := by decide
    have i2 : in62 (.ofNat m) = true := by
      simp only [in62, ile_iff, ilt_iff, Bool.and_eq_true, decide_eq_true_eq, p62]
      simp only [Int.ofNat_eq_natCast]
      omega
    have i3 : (Int.ofNat m - 0).toNat = m := by simp
    unfold range12
    rw [i1, i2, i3]
    have : m ≤ sizeMax := by have : sizeMax = 16777216 := rfl; omega
    simp [this]
  have comp : ∀ cf : CallF, compL (stepC cf (.var 2) [2] (.var 2) cdC [some (.int (.ofNat m)), some (.int (.ofNat s)), none]) (rng 0 m) st = .ok (cellsM m s) st := fun cf => compL_pure _ _ fun x hx st => by
    obtain ⟨i, hi⟩ := List.getElem?_of_mem hx
    rw [rng_get] at hi
    split at hi <;> cases hi
    rename_i h
    have : (0 : Int) + (i : Int) = Int.ofNat i := by simp
    rw [this]
    exact cC cf _ s i (by omega) st
  simp only [callF, T25, runFn, f1, f2, f3, b, List.length_cons, List.length_nil, Nat.reduceAdd, if_true, evS, st0, evE_comp]
  simp only [evE, evL, List.getElem?_cons_zero, ok_bind, List.map_cons, List.map_nil, res_int, rg, opg, gl, opt_some, srcL, esc, srcOf, restC, comp, Out.noexc, List.nil_append, hl, if_true]
end Py
end
section
set_option Elab.async false
set_option linter.all false
set_option maxRecDepth 100000
set_option maxHeartbeats 1000000
namespace Py
/-- _law_grows -/
def growM (m a b : Nat) : Bool := (cellsM m a).all fun x => (cellsM m b).any fun y => eqB eqDeep y x
theorem okD_cells {m s : Nat} : (cellsM m s).all (okD eqDeep) = true := by
  rw [List.all_eq_true]
  intro x hx
  obtain ⟨y, _, hy⟩ := List.mem_filterMap.mp hx
  unfold gC at hy
  split at hy
  · split at hy <;> cases hy
    try rfl
  · cases hy
theorem cells_int {m s : Nat} {x : D} (hx : x ∈ cellsM m s) : ∃ k : Nat, x = .int (.ofNat k) := by
  obtain ⟨y, _, hy⟩ := List.mem_filterMap.mp hx
  unfold gC at hy
  split at hy
  · split at hy <;> cases hy
    exact ⟨_, rfl⟩
  · cases hy
theorem bls_map {l : List Bool} : blsD (l.map D.bl) = some l := by
  induction l with
  | nil => rfl
  | cons b l ih => simp [blsD, ih]
theorem grows_k00 {k m a b : Nat} {st : Store} (hm : m ≤ 12) : callF k00.T (k + 2) 48 [.int (.ofNat m), .int (.ofNat a), .int (.ofNat b)] st = .ok (.bl (growM m a b)) st := by
  have T27 : k00.T[48]? = some k00.f48 := rfl
  have c1 : ∀ st, callF k00.T (k + 1) 46 [.int (.ofNat m), .int (.ofNat a)] st = .ok (.lst (cellsM m a)) st := fun st => cells_k00 hm
  have c2 : ∀ st, callF k00.T (k + 1) 46 [.int (.ofNat m), .int (.ofNat b)] st = .ok (.lst (cellsM m b)) st := fun st => cells_k00 hm
  have st0 : start 5 [.int (.ofNat m), .int (.ofNat a), .int (.ofNat b)] = [some (.int (.ofNat m)), some (.int (.ofNat a)), some (.int (.ofNat b)), none, none] := rfl
  have hl : (cellsM m a).length ≤ sizeMax := by
    have h1 : (cellsM m a).length ≤ (rng 0 m).length := List.length_filterMap_le _ _
    rw [rng_len] at h1
    have : sizeMax = 16777216 := rfl
    omega
  have step : ∀ (cf : CallF) (st : Store), compL (stepC cf (.cmp .isin (.var 4) (.var 3)) [4] (.var 4) (.cst (.bl true)) [some (.int (.ofNat m)), some (.int (.ofNat a)), some (.int (.ofNat b)), some (.lst (cellsM m b)), none]) (cellsM m a) st = .ok ((cellsM m a).map fun x => .bl ((cellsM m b).any fun y => eqB eqDeep y x)) st := fun cf st => by
    rw [compL_pure (g := fun x => some (.bl ((cellsM m b).any fun y => eqB eqDeep y x)))]
    · rw [List.filterMap_eq_map']
    · intro x hx st
      obtain ⟨i, rfl⟩ := cells_int hx
      have e : cmpD .isin (.int (.ofNat i)) (.lst (cellsM m b)) = some ((cellsM m b).any fun y => eqB eqDeep y (.int (.ofNat i))) := by
        show anyEq _ _ = _
        unfold anyEq
        rw [okD_cells]
        try rfl
      have sg : setTg (.var 4) (.int (.ofNat i)) (wipe [some (.int (.ofNat m)), some (.int (.ofNat a)), some (.int (.ofNat b)), some (.lst (cellsM m b)), none] [4]) = some [some (.int (.ofNat m)), some (.int (.ofNat a)), some (.int (.ofNat b)), some (.lst (cellsM m b)), some (.int (.ofNat i))] := rfl
      simp only [stepC, sg, evE, ok_bind, List.getElem?_cons_zero, List.getElem?_cons_succ, resolve, truth, e, Option.map_some, opt_some, esc]
  have al : primD .all [.lst ((cellsM m a).map fun x => .bl ((cellsM m b).any fun y => eqB eqDeep y x))] = some (.bl (growM m a b)) := by
    show pAll _ = _
    have : ((cellsM m a).map fun x => D.bl ((cellsM m b).any fun y => eqB eqDeep y x)) = (((cellsM m a).map fun x => (cellsM m b).any fun y => eqB eqDeep y x)).map D.bl := by simp
    rw [this]
    show (blsD ((((cellsM m a).map fun x => (cellsM m b).any fun y => eqB eqDeep y x)).map D.bl)).map (fun l => D.bl (l.all id)) = _
    rw [bls_map]
    simp [growM, List.all_map]
  have hcomp : ∀ (cf : CallF), (∀ st, cf 46 [.int (.ofNat m), .int (.ofNat a)] st = .ok (.lst (cellsM m a)) st) → ∀ st, evE cf (.comp (.cmp .isin (.var 4) (.var 3)) [4] (.var 4) (.call 46 (.cons (.var 0) (.cons (.var 1) .nil))) (.cst (.bl true))) [some (.int (.ofNat m)), some (.int (.ofNat a)), some (.int (.ofNat b)), some (.lst (cellsM m b)), none] st = .ok (.lst ((cellsM m a).map fun x => .bl ((cellsM m b).any fun y => eqB eqDeep y x))) st := fun cf hc st => by
    rw [evE_comp]
    have e : evE cf (.call 46 (.cons (.var 0) (.cons (.var 1) .nil))) [some (.int (.ofNat m)), some (.int (.ofNat a)), some (.int (.ofNat b)), some (.lst (cellsM m b)), none] st = .ok (.lst (cellsM m a)) st := by
      simp only [evE, evL, List.getElem?_cons_zero, List.getElem?_cons_succ, ok_bind, callE, hc]
    rw [e]
    simp only [srcL, ok_bind, esc, srcOf, opt_some, restC, step, Out.noexc, List.nil_append, List.length_map, hl, if_true]
  have e1 : ∀ (cf : CallF), (∀ st, cf 46 [.int (.ofNat m), .int (.ofNat b)] st = .ok (.lst (cellsM m b)) st) → ∀ st, evE cf (.call 46 (.cons (.var 0) (.cons (.var 2) .nil))) [some (.int (.ofNat m)), some (.int (.ofNat a)), some (.int (.ofNat b)), none, none] st = .ok (.lst (cellsM m b)) st := fun cf hc st => by
    simp only [evE, evL, List.getElem?_cons_zero, List.getElem?_cons_succ, ok_bind, callE, hc]
  have e2 : ∀ (cf : CallF), (∀ st, cf 46 [.int (.ofNat m), .int (.ofNat a)] st = .ok (.lst (cellsM m a)) st) → ∀ st, evE cf (.prim .all (.cons (.comp (.cmp .isin (.var 4) (.var 3)) [4] (.var 4) (.call 46 (.cons (.var 0) (.cons (.var 1) .nil))) (.cst (.bl true))) .nil)) [some (.int (.ofNat m)), some (.int (.ofNat a)), some (.int (.ofNat b)), some (.lst (cellsM m b)), none] st = .ok (.bl (growM m a b)) st := fun cf hc st => by
    show (((evE cf (.comp (.cmp .isin (.var 4) (.var 3)) [4] (.var 4) (.call 46 (.cons (.var 0) (.cons (.var 1) .nil))) (.cst (.bl true))) [some (.int (.ofNat m)), some (.int (.ofNat a)), some (.int (.ofNat b)), some (.lst (cellsM m b)), none] st).bind fun x st => (evL cf .nil _ st).bind fun l st => .ok (x :: l) st).bind fun l st => opg st (primD .all (l.map (resolve st)))) = _
    rw [hcomp cf hc st]
    simp only [ok_bind, evL, List.map_cons, List.map_nil, resolve, al, opg, gl, opt_some]
  rw [callF]
  simp only [T27, runFn, k00.f48, List.length_cons, List.length_nil, Nat.reduceAdd, if_true, evS, st0, e1 _ c2, ok_bind, List.set_cons_succ, List.set_cons_zero, e2 _ c1]
end Py
end
section
set_option Elab.async false
set_option linter.all false
set_option maxRecDepth 100000
set_option maxHeartbeats 1000000
namespace Py
theorem same_int (k : Nat) (i j : Int) (st : Store) : callF k00.T (k + 1) 45 [.int i, .int j] st = .ok (.bl (ieq i j)) st := by kernel_rfl
theorem same_bl (k : Nat) (a b : Bool) (st : Store) : callF k00.T (k + 1) 45 [.bl a, .bl b] st = .ok (.bl (a == b)) st := by kernel_rfl
theorem same_non (k : Nat) (st : Store) : callF k00.T (k + 1) 45 [.none, .none] st = .ok (.bl true) st := by kernel_rfl
theorem grows_to (k : Nat) (a b : Nat) (st : Store) : callF k00.T (k + 1) 10 [.int (.ofNat a), .int (.ofNat b)] st = .ok (.bl (Nat.beq (Nat.land a b) a)) st := by kernel_rfl
theorem both_is (k : Nat) (a b : Nat) (cf : CallF) (env : Env) (st : Store) : evE cf (.bin .bor (.cst (.int (.ofNat a))) (.cst (.int (.ofNat b)))) env st = .ok (.int (.ofNat (Nat.lor a b))) st := by kernel_rfl
theorem chk5_2 (k a : Nat) (st : Store) : callF k00.T (k + 3) 5 [.int (.ofNat 2), .int (.ofNat a)] st = .ok (.bl (Nat.ble a 3)) st := by kernel_rfl
theorem chk14_2 (k : Nat) (st : Store) : callF k00.T (k + 3) 14 [.int (.ofNat 2)] st = .ok .none st := by kernel_rfl
theorem rg_2 (cf : CallF) (i : Nat) (env : Env) (st : Store) (h : env[i]? = some (some (.int (.ofNat 2)))) : srcL (evE cf (.prim .range1 (.cons (.bin .shl (.cst (.int 1)) (.var i)) .nil)) env st) = .ok (rng 0 4) st := by
  simp only [evE, evL, h, ok_bind]
  kernel_rfl
theorem all_2 (k : Nat) (st : Store) : callF k00.T (k + 1) 49 [.int (.ofNat 2)] st = .ok (.lst (rng 0 4)) st := by kernel_rfl
theorem chk5_3 (k a : Nat) (st : Store) : callF k00.T (k + 3) 5 [.int (.ofNat 3), .int (.ofNat a)] st = .ok (.bl (Nat.ble a 7)) st := by kernel_rfl
theorem chk14_3 (k : Nat) (st : Store) : callF k00.T (k + 3) 14 [.int (.ofNat 3)] st = .ok .none st := by kernel_rfl
theorem rg_3 (cf : CallF) (i : Nat) (env : Env) (st : Store) (h : env[i]? = some (some (.int (.ofNat 3)))) : srcL (evE cf (.prim .range1 (.cons (.bin .shl (.cst (.int 1)) (.var i)) .nil)) env st) = .ok (rng 0 8) st := by
  simp only [evE, evL, h, ok_bind]
  kernel_rfl
theorem all_3 (k : Nat) (st : Store) : callF k00.T (k + 1) 49 [.int (.ofNat 3)] st = .ok (.lst (rng 0 8)) st := by kernel_rfl
theorem chk5_4 (k a : Nat) (st : Store) : callF k00.T (k + 3) 5 [.int (.ofNat 4), .int (.ofNat a)] st = .ok (.bl (Nat.ble a 15)) st := by kernel_rfl
theorem chk14_4 (k : Nat) (st : Store) : callF k00.T (k + 3) 14 [.int (.ofNat 4)] st = .ok .none st := by kernel_rfl
theorem rg_4 (cf : CallF) (i : Nat) (env : Env) (st : Store) (h : env[i]? = some (some (.int (.ofNat 4)))) : srcL (evE cf (.prim .range1 (.cons (.bin .shl (.cst (.int 1)) (.var i)) .nil)) env st) = .ok (rng 0 16) st := by
  simp only [evE, evL, h, ok_bind]
  kernel_rfl
theorem all_4 (k : Nat) (st : Store) : callF k00.T (k + 1) 49 [.int (.ofNat 4)] st = .ok (.lst (rng 0 16)) st := by kernel_rfl
theorem chk5_5 (k a : Nat) (st : Store) : callF k00.T (k + 3) 5 [.int (.ofNat 5), .int (.ofNat a)] st = .ok (.bl (Nat.ble a 31)) st := by kernel_rfl
theorem chk14_5 (k : Nat) (st : Store) : callF k00.T (k + 3) 14 [.int (.ofNat 5)] st = .ok .none st := by kernel_rfl
theorem rg_5 (cf : CallF) (i : Nat) (env : Env) (st : Store) (h : env[i]? = some (some (.int (.ofNat 5)))) : srcL (evE cf (.prim .range1 (.cons (.bin .shl (.cst (.int 1)) (.var i)) .nil)) env st) = .ok (rng 0 32) st := by
  simp only [evE, evL, h, ok_bind]
  kernel_rfl
theorem all_5 (k : Nat) (st : Store) : callF k00.T (k + 1) 49 [.int (.ofNat 5)] st = .ok (.lst (rng 0 32)) st := by kernel_rfl
theorem chk5_6 (k a : Nat) (st : Store) : callF k00.T (k + 3) 5 [.int (.ofNat 6), .int (.ofNat a)] st = .ok (.bl (Nat.ble a 63)) st := by kernel_rfl
theorem chk14_6 (k : Nat) (st : Store) : callF k00.T (k + 3) 14 [.int (.ofNat 6)] st = .ok .none st := by kernel_rfl
theorem rg_6 (cf : CallF) (i : Nat) (env : Env) (st : Store) (h : env[i]? = some (some (.int (.ofNat 6)))) : srcL (evE cf (.prim .range1 (.cons (.bin .shl (.cst (.int 1)) (.var i)) .nil)) env st) = .ok (rng 0 64) st := by
  simp only [evE, evL, h, ok_bind]
  kernel_rfl
theorem all_6 (k : Nat) (st : Store) : callF k00.T (k + 1) 49 [.int (.ofNat 6)] st = .ok (.lst (rng 0 64)) st := by kernel_rfl
/-- the sizes of the law -/
def Sz (n : Nat) : Prop := 2 ≤ n ∧ n ≤ 6
theorem Sz.cases {n : Nat} (h : Sz n) : n = 2 ∨ n = 3 ∨ n = 4 ∨ n = 5 ∨ n = 6 := by unfold Sz at h; omega
theorem chk14 {n : Nat} (h : Sz n) (k : Nat) (st : Store) : callF k00.T (k + 3) 14 [.int (.ofNat n)] st = .ok .none st := by
  rcases h.cases with rfl | rfl | rfl | rfl | rfl
  · exact chk14_2 k st
  · exact chk14_3 k st
  · exact chk14_4 k st
  · exact chk14_5 k st
  · exact chk14_6 k st
theorem ble_lt {a m : Nat} (h : a < m + 1) : Nat.ble a m = true := Nat.ble_eq_true_of_le (by omega)
theorem chk5 {n : Nat} (h : Sz n) (k a : Nat) (st : Store) (ha : a < 2 ^ n) : callF k00.T (k + 3) 5 [.int (.ofNat n), .int (.ofNat a)] st = .ok (.bl true) st := by
  rcases h.cases with rfl | rfl | rfl | rfl | rfl
  · rw [chk5_2, ble_lt (m := 3) ha]
  · rw [chk5_3, ble_lt (m := 7) ha]
  · rw [chk5_4, ble_lt (m := 15) ha]
  · rw [chk5_5, ble_lt (m := 31) ha]
  · rw [chk5_6, ble_lt (m := 63) ha]
theorem chk15 {n : Nat} (h : Sz n) (k a : Nat) (t : D) (st : Store) (ha : a < 2 ^ n) : callF k00.T (k + 4) 15 [.int (.ofNat n), .int (.ofNat a), t] st = .ok .none st := by
  have T15 : k00.T[15]? = some k00.f15 := rfl
  have c5 : ∀ st, callF k00.T (k + 3) 5 [.int (.ofNat n), .int (.ofNat a)] st = .ok (.bl true) st := fun st => chk5 h k a st ha
  have rb : ∀ st b, resolve st (.bl b) = .bl b := fun st b => rfl
  have st0 : start 3 [.int (.ofNat n), .int (.ofNat a), t] = [some (.int (.ofNat n)), some (.int (.ofNat a)), some t] := rfl
  rw [callF]
  simp only [T15, runFn, k00.f15, List.length_cons, List.length_nil, Nat.reduceAdd, if_true, evS, st0, evE, evL, List.getElem?_cons_zero, List.getElem?_cons_succ, ok_bind, callE, c5, rb, truth, Option.map_some, opt_some, Bool.not_true]
theorem rg_is {n : Nat} (hs : Sz n) (cf : CallF) (i : Nat) (env : Env) (st : Store) (h : env[i]? = some (some (.int (.ofNat n)))) : srcL (evE cf (.prim .range1 (.cons (.bin .shl (.cst (.int 1)) (.var i)) .nil)) env st) = .ok (rng 0 (2 ^ n)) st := by
  rcases hs.cases with rfl | rfl | rfl | rfl | rfl
  · exact rg_2 cf i env st h
  · exact rg_3 cf i env st h
  · exact rg_4 cf i env st h
  · exact rg_5 cf i env st h
  · exact rg_6 cf i env st h
theorem all_is {n : Nat} (h : Sz n) (k : Nat) (st : Store) : callF k00.T (k + 1) 49 [.int (.ofNat n)] st = .ok (.lst (rng 0 (2 ^ n))) st := by
  rcases h.cases with rfl | rfl | rfl | rfl | rfl
  · exact all_2 k st
  · exact all_3 k st
  · exact all_4 k st
  · exact all_5 k st
  · exact all_6 k st
/-- a comprehension that takes what p says -/
def natD (s : Nat) : D := .int (.ofNat s)
def keepD (b : Bool) (s : Nat) : Option D := match b with | true => some (natD s) | false => .none
theorem rng_range : ∀ (N lo : Nat), rng (Int.ofNat lo) N = (List.range' lo N).map natD
  | 0, _ => rfl
  | N + 1, lo => by
    have h := rng_range N (lo + 1)
    simp only [rng, List.range'_succ, List.map_cons]
    have e : Int.ofNat lo + 1 = Int.ofNat (lo + 1) := rfl
    rw [e, h]
    try rfl
theorem rng0 (N : Nat) : rng 0 N = (List.range N).map natD := by
  have := rng_range N 0
  rw [List.range_eq_range']
  exact this
theorem compL_filter {f : D → Store → Out (Option D)} {p : Nat → Bool} {l : List Nat} {st : Store} (h : ∀ s ∈ l, ∀ st, f (natD s) st = .ok (keepD (p s) s) st) : compL f (l.map natD) st = .ok ((l.filter p).map natD) st := by
  induction l generalizing st with
  | nil => rfl
  | cons x xs ih =>
    simp only [List.map_cons, compL, h x List.mem_cons_self, ok_bind, ih fun s hs => h s (List.mem_cons_of_mem _ hs)]
    cases e : p x with
    | true => simp only [keepD, List.filter_cons, e, if_true, List.map_cons]
    | false => simp only [keepD, List.filter_cons, e, Bool.false_eq_true, if_false]
/-- the step of such a comprehension -/
theorem step_filter {cf : CallF} {i : Nat} {c : Ex} {env : Env} {s : Nat} {b : Bool} (hi : i < env.length) (hc : ∀ st, evE cf c (env.set i (some (natD s))) st = .ok (.bl b) st) (st : Store) :
    stepC cf (.var i) [i] (.var i) c env (natD s) st = .ok (keepD b s) st := by
  have e1 : setTg (.var i) (natD s) (wipe env [i]) = some (env.set i (some (natD s))) := by
    simp [setTg, natD, gl, wipe]
  have e2 : ∀ st, evE cf (.var i) (env.set i (some (natD s))) st = .ok (natD s) st := fun st => by
    rw [evE, List.getElem?_set_self hi]
  simp only [stepC, e1, hc, ok_bind]
  cases b with
  | true =>
    have : ∀ st, resolve st (.bl true) = .bl true := fun st => rfl
    simp only [this, truth, e2, ok_bind]
    try rfl
  | false => rfl
end Py
end
section
set_option Elab.async false
set_option linter.all false
set_option maxRecDepth 100000
set_option maxHeartbeats 1000000
namespace Py
theorem lstf {cf : CallF} {src c : Ex} {env : Env} {i : Nat} {l : List Nat} {p : Nat → Bool} {st : Store} (hs : srcL (evE cf src env st) = .ok (l.map natD) st) (hi : i < env.length)
    (hc : ∀ s ∈ l, ∀ st, evE cf c (env.set i (some (natD s))) st = .ok (.bl (p s)) st) (hl : l.length ≤ 4096) : evE cf (.comp (.var i) [i] (.var i) src c) env st = .ok (.lst ((l.filter p).map natD)) st := by
  rw [evE_comp, hs]
  have e : compL (stepC cf (.var i) [i] (.var i) c env) (l.map natD) st = .ok ((l.filter p).map natD) st := compL_filter fun s hs st => by
    rw [step_filter hi (hc s hs)]
  have hn : ((l.filter p).map natD).length ≤ sizeMax := by
    rw [List.length_map]
    have := List.length_filter_le p l
    have : sizeMax = 16777216 := rfl
    omega
  simp only [ok_bind, restC, e, Out.noexc, List.nil_append, hn, if_true]
theorem tupf {cf : CallF} {src c : Ex} {env : Env} {i : Nat} {l : List Nat} {p : Nat → Bool} {st : Store} (hs : srcL (evE cf src env st) = .ok (l.map natD) st) (hi : i < env.length)
    (hc : ∀ s ∈ l, ∀ st, evE cf c (env.set i (some (natD s))) st = .ok (.bl (p s)) st) (hl : l.length ≤ 4096) : evE cf (.prim .tuple (.cons (.comp (.var i) [i] (.var i) src c) .nil)) env st = .ok (.tup ((l.filter p).map natD)) st := by
  have e : evL cf (.cons (.comp (.var i) [i] (.var i) src c) .nil) env st = .ok [.lst ((l.filter p).map natD)] st := by
    show ((evE cf (.comp (.var i) [i] (.var i) src c) env st).bind fun x st => (evL cf .nil env st).bind fun l st => .ok (x :: l) st) = _
    rw [lstf hs hi hc hl]
    try rfl
  show ((evL cf (.cons (.comp (.var i) [i] (.var i) src c) .nil) env st).bind fun l st => opg st (primD .tuple (l.map (resolve st)))) = _
  rw [e]
  try rfl
theorem range_len {n : Nat} (h : Sz n) : (List.range (2 ^ n)).length ≤ 4096 := by
  rw [List.length_range]
  rcases h.cases with rfl | rfl | rfl | rfl | rfl <;> decide
def overN (n a : Nat) : List Nat := (List.range (2 ^ n)).filter fun s => Nat.beq (Nat.land a s) a
def underN (n a : Nat) : List Nat := (List.range (2 ^ n)).filter fun s => Nat.beq (Nat.land s a) s
theorem over_is {n : Nat} (h : Sz n) (k a : Nat) (st : Store) : callF k00.T (k + 2) 11 [.int (.ofNat n), .int (.ofNat a)] st = .ok (.tup ((overN n a).map natD)) st := by
  have T11 : k00.T[11]? = some k00.f11 := rfl
  have st0 : start 3 [.int (.ofNat n), .int (.ofNat a)] = [some (.int (.ofNat n)), some (.int (.ofNat a)), none] := rfl
  rw [callF]
  simp only [T11, runFn, k00.f11, List.length_cons, List.length_nil, Nat.reduceAdd, if_true, st0]
  rw [evS, evS, tupf (l := List.range (2 ^ n)) (p := fun s => Nat.beq (Nat.land a s) a) (by rw [rg_is h _ 0 _ _ rfl, rng0]) (by simp) (fun s _ st => by
    show ((evL (callF k00.T (k + 1)) (.cons (.var 1) (.cons (.var 2) .nil)) [some (.int (.ofNat n)), some (.int (.ofNat a)), some (natD s)] st).bind fun l st => callE (callF k00.T (k + 1)) 10 l st) = _
    exact grows_to k a s st) (range_len h)]
  try rfl
theorem under_is {n : Nat} (h : Sz n) (k a : Nat) (st : Store) : callF k00.T (k + 2) 12 [.int (.ofNat n), .int (.ofNat a)] st = .ok (.tup ((underN n a).map natD)) st := by
  have T12 : k00.T[12]? = some k00.f12 := rfl
  have st0 : start 3 [.int (.ofNat n), .int (.ofNat a)] = [some (.int (.ofNat n)), some (.int (.ofNat a)), none] := rfl
  rw [callF]
  simp only [T12, runFn, k00.f12, List.length_cons, List.length_nil, Nat.reduceAdd, if_true, st0]
  rw [evS, evS, tupf (l := List.range (2 ^ n)) (p := fun s => Nat.beq (Nat.land s a) s) (by rw [rg_is h _ 0 _ _ rfl, rng0]) (by simp) (fun s _ st => by
    show ((evL (callF k00.T (k + 1)) (.cons (.var 2) (.cons (.var 1) .nil)) [some (.int (.ofNat n)), some (.int (.ofNat a)), some (natD s)] st).bind fun l st => callE (callF k00.T (k + 1)) 10 l st) = _
    exact grows_to k s a st) (range_len h)]
  try rfl
end Py
end
section
set_option Elab.async false
set_option linter.all false
set_option maxRecDepth 100000
set_option maxHeartbeats 1000000
namespace Py
/-! ### calls by table: the table M is asked first (from level k0 on) -/
def callG (T : List Fn) (M : Nat → List D → Option D) (k0 : Nat) : Nat → CallF
  | 0, _, _, _ => .stuck
  | k + 1, j, as, st => match (match Nat.ble k0 (k + 1) with | true => M j as | false => .none) with
    | some d => .ok d st
    | .none => match T[j]? with
      | some f => runFn (callG T M k0 k) f as st
      | .none => .stuck
theorem callG_eq {T : List Fn} {M : Nat → List D → Option D} {k0 : Nat} (h : ∀ k j as d st, M j as = some d → callF T (k + k0) j as st = .ok d st) : ∀ k, callG T M k0 k = callF T k
  | 0 => by funext j as st; rfl
  | k + 1 => by
    funext j as st
    have ih := callG_eq h k
    rw [callG, callF, ih]
    cases hk : Nat.ble k0 (k + 1) with
    | false => rfl
    | true =>
      cases hm : M j as with
      | none => rfl
      | some d =>
        have hle : k0 ≤ k + 1 := Nat.le_of_ble_eq_true hk
        have := h (k + 1 - k0) j as d st hm
        rw [Nat.sub_add_cancel hle, callF] at this
        exact this.symm
/-- a table by the arguments: none, 0, 1, .. -/
def TrN : Nat → Type
  | 0 => Option D
  | n + 1 => List (TrN n)
def keyT : D → Option Nat
  | .none => some 0
  | .int (.ofNat n) => some (n + 1)
  | _ => .none
def unT : Nat → D
  | 0 => .none
  | n + 1 => .int (.ofNat n)
theorem keyT_un {d : D} {i : Nat} (h : keyT d = some i) : d = unT i := by
  cases d <;> simp only [keyT, Option.some.injEq, reduceCtorEq] at h
  · subst h; rfl
  · rename_i z
    cases z <;> simp only [Option.some.injEq, reduceCtorEq] at h
    subst h; rfl
def nthT {α : Type} : List α → Nat → Option α
  | [], _ => .none
  | x :: _, 0 => some x
  | _ :: r, n + 1 => nthT r n
def TrN.get : (n : Nat) → TrN n → List D → Option D
  | 0, t, [] => t
  | n + 1, t, a :: as => match keyT a with
    | some i => match nthT t i with
      | some u => TrN.get n u as
      | .none => .none
    | .none => .none
  | _, _, _ => .none
def entL {α : Type} (f : α → List D → List (List D × D)) (pre : List D) : Nat → List α → List (List D × D)
  | _, [] => []
  | i, x :: r => f x (pre ++ [unT i]) ++ entL f pre (i + 1) r
def TrN.ents : (n : Nat) → TrN n → List D → List (List D × D)
  | 0, t, pre => match (t : Option D) with
    | some d => [(pre, d)]
    | .none => []
  | n + 1, t, pre => entL (TrN.ents n) pre 0 t
theorem entL_mem {α : Type} {f : α → List D → List (List D × D)} {pre : List D} {e : List D × D} : ∀ {l : List α} {i j : Nat} {u : α}, nthT l j = some u → e ∈ f u (pre ++ [unT (i + j)]) → e ∈ entL f pre i l
  | [], _, _, _, h, _ => by simp [nthT] at h
  | x :: r, i, 0, u, h, m => by
    simp [nthT] at h
    subst h
    exact List.mem_append_left _ m
  | x :: r, i, j + 1, u, h, m => by
    simp only [nthT] at h
    refine List.mem_append_right _ (entL_mem h ?_)
    have : i + 1 + j = i + (j + 1) := by omega
    rw [this]; exact m
theorem TrN.get_mem : ∀ (n : Nat) (t : TrN n) (as pre : List D) (d : D), TrN.get n t as = some d → (pre ++ as, d) ∈ TrN.ents n t pre := by
  intro n
  induction n with
  | zero =>
    intro t as pre d h
    cases as with
    | nil =>
      have h : (t : Option D) = some d := h
      show _ ∈ (match (t : Option D) with | some d => [(pre, d)] | .none => [])
      rw [h, List.append_nil]
      exact List.mem_singleton.mpr rfl
    | cons a as => exact nomatch (show (Option.none : Option D) = some d from h)
  | succ n ih =>
    intro t as pre d h
    cases as with
    | nil => exact nomatch (show (Option.none : Option D) = some d from h)
    | cons a as =>
      have h : (match keyT a with | some i => (match nthT (t : List (TrN n)) i with | some u => TrN.get n u as | .none => .none) | .none => .none) = some d := h
      cases k : keyT a with
      | none => rw [k] at h; exact nomatch h
      | some i =>
        rw [k] at h
        simp only at h
        cases k2 : nthT (t : List (TrN n)) i with
        | none => rw [k2] at h; exact nomatch h
        | some u =>
          rw [k2] at h
          have := ih u as (pre ++ [a]) d h
          rw [List.append_assoc] at this
          refine entL_mem (i := 0) k2 ?_
          rw [keyT_un k] at this
          rw [Nat.zero_add, keyT_un k]
          exact this
theorem map_both {α β : Type} {f g : α → β} {l : List α} (h : l.map f = l.map g) {x : α} (hx : x ∈ l) : f x = g x := List.map_inj_left.mp h x hx
/-- a table that was tried is so -/
theorem tab_ok {F : List D → Store → Out D} {n : Nat} {t : TrN n} (h : ∀ st, (TrN.ents n t []).map (fun e => F e.1 st) = (TrN.ents n t []).map (fun e => .ok e.2 st)) {as : List D} {d : D} (g : TrN.get n t as = some d) (st : Store) : F as st = .ok d st :=
  map_both (h st) (TrN.get_mem n t as [] d g)
end Py
end
section
set_option Elab.async false
set_option linter.all false
set_option maxRecDepth 100000
namespace Py
/-! ### the store beneath: a run over no cells is the same run over any cells (cells are numbered further on) -/
def sh (n : Nat) : D → D
  | .loc l => .loc (n + l)
  | d => d
def shE (n : Nat) (env : Env) : Env := env.map (Option.map (sh n))
def shFl (n : Nat) : Fl → Fl
  | .nx e => .nx (shE n e)
  | .bk e => .bk (shE n e)
  | .ct e => .ct (shE n e)
  | .rt d => .rt (sh n d)
def Sim {α : Type} (g : α → α) (st0 : Store) (o o' : Out α) : Prop := match o with
  | .ok a s => o' = .ok (g a) (st0 ++ s)
  | _ => True
section
variable {st0 : Store} {α β : Type}
theorem Sim.bind {g : α → α} {g2 : β → β} {o o' : Out α} {f f' : α → Store → Out β} (h : Sim g st0 o o') (k : ∀ a s, Sim g2 st0 (f a s) (f' (g a) (st0 ++ s))) : Sim g2 st0 (o.bind f) (o'.bind f') := by
  cases o with
  | ok a s => rw [show o' = _ from h]; exact k a s
  | _ => trivial
theorem Sim.ret {g : α → α} {a : α} {s : Store} : Sim g st0 (.ok a s) (.ok (g a) (st0 ++ s)) := rfl
theorem Sim.opt {x : Option α} {s : Store} : Sim id st0 (opt s x) (opt (st0 ++ s) x) := by
  cases x <;> first | rfl | trivial
theorem Sim.noexc {g : α → α} {o o' : Out α} (h : Sim g st0 o o') : Sim g st0 o.noexc o'.noexc := by
  cases o with
  | ok a s => rw [show o' = _ from h]; rfl
  | _ => trivial
theorem sh_no {n : Nat} {d : D} (h : isLoc d = false) : sh n d = d := by cases d <;> first | rfl | (cases h)
theorem get_sh (s : Store) (l : Nat) : (st0 ++ s)[st0.length + l]? = s[l]? := by
  rw [List.getElem?_append_right (by omega)]
  congr 1
  omega
theorem set_sh (s : Store) (l : Nat) (c : Cell) : (st0 ++ s).set (st0.length + l) c = st0 ++ s.set l c := by
  rw [List.set_append_right _ _ (by omega)]
  congr 2
  omega
theorem res_sh (s : Store) (d : D) : resolve (st0 ++ s) (sh st0.length d) = resolve s d := by
  cases d <;> first | rfl | (simp only [sh, resolve, get_sh])
theorem gl_no {o : Option D} {d : D} (h : gl o = some d) : isLoc d = false := by
  cases o with
  | none => cases h
  | some x => cases x <;> first | (cases h; rfl) | (cases h)
theorem sim_opg {x : Option D} {s : Store} : Sim (sh st0.length) st0 (opg s x) (opg (st0 ++ s) x) := by
  unfold opg
  cases k : gl x with
  | none => trivial
  | some d =>
    show Out.ok d (st0 ++ s) = .ok (sh st0.length d) (st0 ++ s)
    rw [sh_no (gl_no k)]
theorem sim_esc {d : D} {s : Store} : Sim id st0 (esc s d) (esc (st0 ++ s) (sh st0.length d)) := by
  cases d with
  | loc l =>
    simp only [sh, esc, get_sh]
    cases k : s[l]? with
    | none => trivial
    | some c =>
      simp only
      cases h : isLoc c.d with
      | true => trivial
      | false =>
        show Out.ok c.d _ = _
        rw [set_sh]
        try rfl
  | _ => rfl
theorem sim_escL : ∀ {ds : List D} {s : Store}, Sim id st0 (escL ds s) (escL (ds.map (sh st0.length)) (st0 ++ s))
  | [], s => rfl
  | d :: ds, s => by
    simp only [escL, List.map_cons]
    exact sim_esc.bind fun a s => (sim_escL (ds := ds)).bind fun r s => rfl
theorem sim_src {o o' : Out D} (h : Sim (sh st0.length) st0 o o') : Sim id st0 (srcL o) (srcL o') := h.bind fun a s => sim_esc.bind fun b s => Sim.opt
theorem sim_compL {f f' : D → Store → Out (Option D)} (h : ∀ x s, Sim id st0 (f x s) (f' x (st0 ++ s))) : ∀ (l : List D) (s : Store), Sim id st0 (compL f l s) (compL f' l (st0 ++ s))
  | [], s => rfl
  | x :: xs, s => by
    simp only [compL]
    refine (h x s).bind fun y s => (sim_compL h xs s).bind fun ys s => ?_
    cases y <;> rfl
theorem map_res_sh (l : List D) (s : Store) : (l.map (sh st0.length)).map (resolve (st0 ++ s)) = l.map (resolve s) := by
  rw [List.map_map]
  exact List.map_congr_left fun d _ => res_sh s d
theorem shE_get {n : Nat} {env : Env} {i : Nat} : (shE n env)[i]? = (env[i]?).map (Option.map (sh n)) := by simp [shE]
theorem shE_set {n : Nat} {env : Env} {i : Nat} {o : Option D} : (shE n env).set i (o.map (sh n)) = shE n (env.set i o) := by simp [shE, List.map_set]
theorem shE_set1 {n : Nat} {env : Env} {i : Nat} {d : D} : (shE n env).set i (some (sh n d)) = shE n (env.set i (some d)) := shE_set (o := some d)
theorem wipe_sh {n : Nat} {env : Env} : ∀ own : List Nat, wipe (shE n env) own = shE n (wipe env own)
  | [] => rfl
  | i :: r => by
    simp only [wipe, wipe_sh r]
    exact shE_set (o := none)
mutual
theorem setTg_sh {n : Nat} : ∀ (t : Ex) (d : D) (env : Env), setTg t d (shE n env) = (setTg t d env).map (shE n)
  | .var i, d, env => by
    simp only [setTg]
    cases k : gl (some d) with
    | none => rfl
    | some d' =>
      have := shE_set1 (n := n) (env := env) (i := i) (d := d')
      rw [sh_no (gl_no k)] at this
      simp only [Option.map_some, this]
  | .tup ts, d, env => by
    cases d <;> simp only [setTg, Option.map_none]
    exact setTgs_sh ts _ env
  | .nil, d, _ => by cases d <;> rfl
  | .cons _ _, d, _ => by cases d <;> rfl
  | .cst _, d, _ => by cases d <;> rfl
  | .bin _ _ _, d, _ => by cases d <;> rfl
  | .neg _, d, _ => by cases d <;> rfl
  | .cmp _ _ _, d, _ => by cases d <;> rfl
  | .chain _ _ _ _ _, d, _ => by cases d <;> rfl
  | .and _ _, d, _ => by cases d <;> rfl
  | .or _ _, d, _ => by cases d <;> rfl
  | .not _, d, _ => by cases d <;> rfl
  | .ite _ _ _, d, _ => by cases d <;> rfl
  | .lst _, d, _ => by cases d <;> rfl
  | .ix _ _, d, _ => by cases d <;> rfl
  | .slc _ _ _, d, _ => by cases d <;> rfl
  | .slcR _, d, _ => by cases d <;> rfl
  | .enumE _, d, _ => by cases d <;> rfl
  | .call _ _, d, _ => by cases d <;> rfl
  | .calv _ _ _, d, _ => by cases d <;> rfl
  | .prim _ _, d, _ => by cases d <;> rfl
  | .meth _ _ _, d, _ => by cases d <;> rfl
  | .comp _ _ _ _ _, d, _ => by cases d <;> rfl
  | .comp2 _ _ _ _ _ _, d, _ => by cases d <;> rfl
  | .dcomp _ _ _ _ _ _, d, _ => by cases d <;> rfl
  | .dict _ _, d, _ => by cases d <;> rfl
theorem setTgs_sh {n : Nat} : ∀ (ts : Ex) (ds : List D) (env : Env), setTgs ts ds (shE n env) = (setTgs ts ds env).map (shE n)
  | .nil, [], env => rfl
  | .nil, _ :: _, _ => rfl
  | .cons t ts, [], _ => rfl
  | .cons t ts, d :: ds, env => by
    simp only [setTgs, setTg_sh t d env]
    cases setTg t d env with
    | none => rfl
    | some e => exact setTgs_sh ts ds e
  | .tup _, d, _ => by cases d <;> rfl
  | .var _, d, _ => by cases d <;> rfl
  | .cst _, d, _ => by cases d <;> rfl
  | .bin _ _ _, d, _ => by cases d <;> rfl
  | .neg _, d, _ => by cases d <;> rfl
  | .cmp _ _ _, d, _ => by cases d <;> rfl
  | .chain _ _ _ _ _, d, _ => by cases d <;> rfl
  | .and _ _, d, _ => by cases d <;> rfl
  | .or _ _, d, _ => by cases d <;> rfl
  | .not _, d, _ => by cases d <;> rfl
  | .ite _ _ _, d, _ => by cases d <;> rfl
  | .lst _, d, _ => by cases d <;> rfl
  | .ix _ _, d, _ => by cases d <;> rfl
  | .slc _ _ _, d, _ => by cases d <;> rfl
  | .slcR _, d, _ => by cases d <;> rfl
  | .enumE _, d, _ => by cases d <;> rfl
  | .call _ _, d, _ => by cases d <;> rfl
  | .calv _ _ _, d, _ => by cases d <;> rfl
  | .prim _ _, d, _ => by cases d <;> rfl
  | .meth _ _ _, d, _ => by cases d <;> rfl
  | .comp _ _ _ _ _, d, _ => by cases d <;> rfl
  | .comp2 _ _ _ _ _ _, d, _ => by cases d <;> rfl
  | .dcomp _ _ _ _ _ _, d, _ => by cases d <;> rfl
  | .dict _ _, d, _ => by cases d <;> rfl
end
/-- terms that the law of this text serves -/
def frN : Ex → Bool
  | .nil => true
  | _ => false
def fr : Ex → Bool
  | .nil => true
  | .cons a as => fr a && fr as
  | .var _ => true
  | .cst d => !isLoc d
  | .bin _ a b => fr a && fr b
  | .neg a => fr a
  | .cmp _ a b => fr a && fr b
  | .chain _ _ a b c => fr a && (fr b && fr c)
  | .and a b => fr a && fr b
  | .or a b => fr a && fr b
  | .not a => fr a
  | .ite c a b => fr c && (fr a && fr b)
  | .tup as => fr as
  | .lst as => fr as
  | .ix a b => fr a && fr b
  | .slc a lo hi => fr a && (fr lo && fr hi)
  | .call _ as => fr as
  | .calv _ _ as => fr as
  | .prim _ as => fr as
  | .meth _ o as => fr o && fr as
  | .comp elt _ _ src c => fr elt && (fr src && fr c)
  | .dict ks vs => frN ks && frN vs
  | .enumE a => fr a
  | _ => false
def SimC (st0 : Store) (cf cf' : CallF) : Prop := ∀ j as s, Sim (sh st0.length) st0 (cf j as s) (cf' j (as.map (sh st0.length)) (st0 ++ s))
theorem sim_truth {β : Type} {g : β → β} {x : D} {s : Store} {F F' G G' : Out β} (hF : Sim g st0 F F') (hG : Sim g st0 G G') : Sim g st0 (match truth (resolve s x) with | some true => F | some false => G | .none => .stuck) (match truth (resolve (st0 ++ s) (sh st0.length x)) with | some true => F' | some false => G' | .none => .stuck) := by
  rw [res_sh]
  cases truth (resolve s x) with
  | none => trivial
  | some b => cases b <;> assumption
theorem sim_bl {o : Option D} {s : Store} (h : ∀ d, o = some d → isLoc d = false) : Sim (sh st0.length) st0 (opt s o) (opt (st0 ++ s) o) := by
  cases o with
  | none => trivial
  | some d =>
    show Out.ok d (st0 ++ s) = .ok (sh st0.length d) (st0 ++ s)
    rw [sh_no (h d rfl)]
theorem bl_no {o : Option Bool} {f : Bool → Bool} : ∀ d, (o.map fun b => D.bl (f b)) = some d → isLoc d = false := fun d e => by
  cases o with
  | none => cases e
  | some b => cases e; rfl
theorem partOk_sh {b : Bool} {n : Nat} {d : D} : partOk b (sh n d) = partOk b d := by cases d <;> cases b <;> rfl
theorem slc_sh {n : Nat} {x y z : D} : slcD x (sh n y) (sh n z) = slcD x y z := by
  cases y <;> cases z <;> first | rfl | (cases x <;> rfl)
mutual
theorem simE {cf cf' : CallF} (hc : SimC st0 cf cf') : ∀ (e : Ex) (env : Env) (s : Store), fr e = true → Sim (sh st0.length) st0 (evE cf e env s) (evE cf' e (shE st0.length env) (st0 ++ s))
  | .nil, env, s, _ => by rw [evE]; trivial
  | .cons _ _, env, s, _ => by rw [evE]; trivial
  | .var i, env, s, _ => by
    simp only [evE, shE_get]
    cases env[i]? with
    | none => trivial
    | some o => cases o <;> first | trivial | rfl
  | .cst d, env, s, h => by
    simp only [fr, Bool.not_eq_true'] at h
    simp only [evE]
    show Out.ok d (st0 ++ s) = .ok (sh st0.length d) (st0 ++ s)
    rw [sh_no h]
  | .bin op a b, env, s, h => by
    simp only [fr, Bool.and_eq_true] at h
    simp only [evE]
    refine (simE hc a env s h.1).bind fun x s => (simE hc b env s h.2).bind fun y s => ?_
    rw [res_sh, res_sh]
    exact sim_opg
  | .neg a, env, s, h => by
    simp only [evE]
    refine (simE hc a env s h).bind fun x s => ?_
    cases x <;> first | rfl | trivial
  | .cmp op a b, env, s, h => by
    simp only [fr, Bool.and_eq_true] at h
    simp only [evE]
    refine (simE hc a env s h.1).bind fun x s => (simE hc b env s h.2).bind fun y s => ?_
    rw [res_sh, res_sh]
    exact sim_bl (bl_no (f := id))
  | .chain op op' a b c, env, s, h => by
    simp only [fr, Bool.and_eq_true] at h
    simp only [evE]
    refine (simE hc a env s h.1).bind fun x s => (simE hc b env s h.2.1).bind fun y s => ?_
    rw [res_sh, res_sh]
    cases cmpD op (resolve s x) (resolve s y) with
    | none => trivial
    | some k =>
      cases k with
      | false => rfl
      | true =>
        refine (simE hc c env s h.2.2).bind fun z s => ?_
        rw [res_sh, res_sh]
        exact sim_bl (bl_no (f := id))
  | .and a b, env, s, h => by
    simp only [fr, Bool.and_eq_true] at h
    simp only [evE]
    exact (simE hc a env s h.1).bind fun x s => sim_truth (simE hc b env s h.2) rfl
  | .or a b, env, s, h => by
    simp only [fr, Bool.and_eq_true] at h
    simp only [evE]
    exact (simE hc a env s h.1).bind fun x s => sim_truth rfl (simE hc b env s h.2)
  | .not a, env, s, h => by
    simp only [evE]
    refine (simE hc a env s h).bind fun x s => ?_
    rw [res_sh]
    exact sim_bl (bl_no (f := fun b => !b))
  | .ite c a b, env, s, h => by
    simp only [fr, Bool.and_eq_true] at h
    simp only [evE]
    exact (simE hc c env s h.1).bind fun x s => sim_truth (simE hc a env s h.2.1) (simE hc b env s h.2.2)
  | .tup as, env, s, h => by
    simp only [evE]
    refine (simL hc as env s h).bind fun l s => sim_escL.bind fun l s => ?_
    by_cases k : l.length ≤ sizeMax
    · simp only [k, if_true, id]; rfl
    · simp only [k, if_false]; trivial
  | .lst as, env, s, h => by
    simp only [evE]
    refine (simL hc as env s h).bind fun l s => sim_escL.bind fun l s => ?_
    by_cases k : l.length ≤ sizeMax
    · simp only [k, if_true, id]; rfl
    · simp only [k, if_false]; trivial
  | .ix a b, env, s, h => by
    simp only [fr, Bool.and_eq_true] at h
    simp only [evE]
    refine (simE hc a env s h.1).bind fun x s => (simE hc b env s h.2).bind fun y s => ?_
    rw [res_sh, res_sh]
    exact sim_opg
  | .slc a lo hi, env, s, h => by
    simp only [fr, Bool.and_eq_true] at h
    simp only [evE]
    refine (simE hc a env s h.1).bind fun x s => (simE hc lo env s h.2.1).bind fun y s => ?_
    rw [partOk_sh]
    by_cases k : partOk (isCN lo) y = true
    · simp only [k, if_true]
      refine (simE hc hi env s h.2.2).bind fun z s => ?_
      rw [partOk_sh]
      by_cases k2 : partOk (isCN hi) z = true
      · simp only [k2, if_true]
        rw [res_sh, slc_sh]
        exact sim_opg
      · simp only [k2]; trivial
    · simp only [k]; trivial
  | .slcR _, env, s, h => by simp [fr] at h
  | .enumE a, env, s, h => by
    simp only [evE]
    refine (simE hc a env s h).bind fun x s => sim_esc.bind fun y s => sim_bl fun d e => ?_
    cases k : enS2 y with
    | none => rw [k] at e; cases e
    | some l => rw [k] at e; cases e; rfl
  | .call j as, env, s, h => by
    simp only [evE]
    refine (simL hc as env s h).bind fun l s => ?_
    cases l with
    | nil => exact (hc j [] s).noexc
    | cons d ds => exact hc j (d :: ds) s
  | .calv i n as, env, s, h => by
    simp only [evE, shE_get]
    cases env[i]? with
    | none => trivial
    | some o =>
      cases o with
      | none => trivial
      | some d =>
        cases d with
        | fn j =>
          simp only [Option.map_some, sh]
          by_cases k : Nat.blt j n = true
          · simp only [k, if_true]
            exact (simL hc as env s h).bind fun l s => hc j l s
          · simp only [k]; trivial
        | _ => trivial
  | .prim q as, env, s, h => by
    simp only [evE]
    refine (simL hc as env s h).bind fun l s => ?_
    rw [map_res_sh]
    exact sim_opg
  | .meth q o as, env, s, h => by
    simp only [fr, Bool.and_eq_true] at h
    simp only [evE]
    refine (simE hc o env s h.1).bind fun x s => ?_
    rw [res_sh]
    by_cases k : recvOk q (resolve s x) = true
    · simp only [k, if_true]
      refine (simL hc as env s h.2).bind fun l s => ?_
      rw [res_sh, map_res_sh]
      exact sim_opg
    · simp only [k]; trivial
  | .comp elt own tg src c, env, s, h => by
    simp only [fr, Bool.and_eq_true] at h
    simp only [evE]
    refine (sim_src (simE hc src env s h.2.1)).bind fun l s => (sim_compL (fun x s => ?_) l s).noexc.bind fun r s => ?_
    · rw [wipe_sh, setTg_sh]
      cases setTg tg x (wipe env own) with
      | none => trivial
      | some env' =>
        refine (simE hc c env' s h.2.2).bind fun b s => sim_truth ?_ rfl
        exact (simE hc elt env' s h.1).bind fun y s => sim_esc.bind fun y s => rfl
    · by_cases k : r.length ≤ sizeMax
      · simp only [k, if_true, id]; rfl
      · simp only [k, if_false]; trivial
  | .comp2 _ _ _ _ _ _, env, s, h => by simp [fr] at h
  | .dcomp _ _ _ _ _ _, env, s, h => by simp [fr] at h
  | .dict ks vs, env, s, h => by
    simp only [fr, Bool.and_eq_true] at h
    cases ks <;> simp only [frN, Bool.false_eq_true, false_and] at h
    cases vs <;> simp only [frN, Bool.false_eq_true, and_false] at h
    try rfl
theorem simL {cf cf' : CallF} (hc : SimC st0 cf cf') : ∀ (e : Ex) (env : Env) (s : Store), fr e = true → Sim (List.map (sh st0.length)) st0 (evL cf e env s) (evL cf' e (shE st0.length env) (st0 ++ s))
  | .nil, env, s, _ => rfl
  | .cons a as, env, s, h => by
    simp only [fr, Bool.and_eq_true] at h
    simp only [evL]
    exact (simE hc a env s h.1).bind fun x s => (simL hc as env s h.2).bind fun l s => rfl
  | .var _, env, s, _ => trivial
  | .cst _, env, s, _ => trivial
  | .bin _ _ _, env, s, _ => trivial
  | .neg _, env, s, _ => trivial
  | .cmp _ _ _, env, s, _ => trivial
  | .chain _ _ _ _ _, env, s, _ => trivial
  | .and _ _, env, s, _ => trivial
  | .or _ _, env, s, _ => trivial
  | .not _, env, s, _ => trivial
  | .ite _ _ _, env, s, _ => trivial
  | .tup _, env, s, _ => trivial
  | .lst _, env, s, _ => trivial
  | .ix _ _, env, s, _ => trivial
  | .slc _ _ _, env, s, _ => trivial
  | .slcR _, env, s, _ => trivial
  | .enumE _, env, s, _ => trivial
  | .call _ _, env, s, _ => trivial
  | .calv _ _ _, env, s, _ => trivial
  | .prim _ _, env, s, _ => trivial
  | .meth _ _ _, env, s, _ => trivial
  | .comp _ _ _ _ _, env, s, _ => trivial
  | .comp2 _ _ _ _ _ _, env, s, _ => trivial
  | .dcomp _ _ _ _ _ _, env, s, _ => trivial
  | .dict _ _, env, s, _ => trivial
end
end
end Py
end
section
set_option Elab.async false
set_option linter.all false
set_option maxRecDepth 100000
namespace Py
section
variable {st0 : Store}
theorem wr_sh {s : Store} {x : D} {g : D → Option D} : wr (st0 ++ s) (sh st0.length x) g = (wr s x g).map (st0 ++ ·) := by
  cases x with
  | loc l =>
    simp only [sh, wr, get_sh]
    cases s[l]? with
    | none => rfl
    | some c =>
      obtain ⟨fz, d⟩ := c
      cases fz with
      | true => rfl
      | false =>
        simp only
        cases g d with
        | none => rfl
        | some d' => simp only [Option.map_some, set_sh]
  | _ => rfl
theorem putIx_sh {n : Nat} {k v d : D} : putIx (sh n k) v d = putIx k v d := by
  cases k with
  | loc l => cases d <;> first | rfl | (simp [sh, putIx, putD, isKey])
  | _ => rfl
theorem lstAt_sh {x k : D} {s : Store} : Sim id st0 (lstAt x k s) (lstAt (sh st0.length x) (sh st0.length k) (st0 ++ s)) := by
  unfold lstAt
  cases x with
  | loc l =>
    cases k with
    | int i =>
      cases i with
      | ofNat i =>
        simp only [sh, get_sh]
        cases s[l]? with
        | none => trivial
        | some c =>
          obtain ⟨fz, d⟩ := c
          cases fz <;> cases d <;> first | trivial | exact Sim.opt
      | negSucc i => trivial
    | _ => trivial
  | _ => trivial
theorem aug_sh {n : Nat} {op : BOp} {x y : D} : augD op (sh n x) y = augD op x y := by
  cases x with
  | loc l => cases y <;> rfl
  | _ => rfl
theorem tl_no {d : D} (h : tl d = true) : isLoc d = false := by cases d <;> first | rfl | (cases h)
theorem sim_new {cf cf' : CallF} (hc : SimC st0 cf cf') {b : Bool} {e : Ex} {env : Env} {s : Store} (h : fr e = true) : Sim (sh st0.length) st0 (evN cf b e env s) (evN cf' b e (shE st0.length env) (st0 ++ s)) := by
  cases b with
  | false => exact simE hc e env s h
  | true =>
    refine Sim.bind (g := id) ((simE hc e env s h).bind fun d s => ?_) fun x s => ?_
    · cases d <;> first | trivial | rfl
    · show Out.ok (D.loc (st0 ++ s).length) ((st0 ++ s) ++ [⟨false, x⟩]) = .ok (.loc (st0.length + s.length)) (st0 ++ (s ++ [⟨false, x⟩]))
      rw [List.length_append, List.append_assoc]
theorem sim_forL {f f' : D → Env → Store → Out Fl} (h : ∀ x env s, Sim (shFl st0.length) st0 (f x env s) (f' x (shE st0.length env) (st0 ++ s))) : ∀ (l : List D) (env : Env) (s : Store), Sim (shFl st0.length) st0 (forL f l env s) (forL f' l (shE st0.length env) (st0 ++ s))
  | [], env, s => rfl
  | x :: xs, env, s => by
    simp only [forL]
    refine (h x env s).bind fun fl s => ?_
    cases fl with
    | nx e => exact sim_forL h xs e s
    | ct e => exact sim_forL h xs e s
    | bk e => rfl
    | rt d => rfl
theorem sim_whL {c c' : Env → Store → Out Bool} {f f' : Env → Store → Out Fl} (hc : ∀ env s, Sim id st0 (c env s) (c' (shE st0.length env) (st0 ++ s))) (h : ∀ env s, Sim (shFl st0.length) st0 (f env s) (f' (shE st0.length env) (st0 ++ s))) : ∀ (n : Nat) (env : Env) (s : Store), Sim (shFl st0.length) st0 (whL c f n env s) (whL c' f' n (shE st0.length env) (st0 ++ s))
  | 0, env, s => trivial
  | n + 1, env, s => by
    simp only [whL]
    refine (hc env s).bind fun b s => ?_
    cases b with
    | false => rfl
    | true =>
      refine (h env s).bind fun fl s => ?_
      cases fl with
      | nx e => exact sim_whL hc h n e s
      | ct e => exact sim_whL hc h n e s
      | bk e => rfl
      | rt d => rfl
def frS : Sm → Bool
  | .nil => true
  | .seq s r => frS s && frS r
  | .set _ e => fr e
  | .new _ e => fr e
  | .setIx c ix e => fr c && (fr ix && fr e)
  | .par _ _ _ _ a b => fr a && fr b
  | .aug _ _ e => fr e
  | .augIx c ix _ e => fr c && (fr ix && fr e)
  | .app c e => fr c && fr e
  | .ext c e => fr c && fr e
  | .popTg _ c => fr c
  | .expr e => fr e
  | .ret e => fr e
  | .retN => true
  | .ite c a b => fr c && (frS a && frS b)
  | .for _ src b => fr src && frS b
  | .whil c b => fr c && frS b
  | .brk => true
  | .cont => true
  | .pass => true
  | .bad => true
  | _ => false
theorem sim_wr {env : Env} {s : Store} {x : D} {g : D → Option D} : Sim (shFl st0.length) st0 (match wr s x g with | some st' => .ok (.nx env) st' | .none => .stuck) (match wr (st0 ++ s) (sh st0.length x) g with | some st' => .ok (.nx (shE st0.length env)) st' | .none => .stuck) := by
  rw [wr_sh]
  cases wr s x g <;> first | trivial | rfl
theorem simS {cf cf' : CallF} (hc : SimC st0 cf cf') : ∀ (m : Sm) (env : Env) (s : Store), frS m = true → Sim (shFl st0.length) st0 (evS cf m env s) (evS cf' m (shE st0.length env) (st0 ++ s))
  | .nil, env, s, _ => rfl
  | .seq a r, env, s, h => by
    simp only [frS, Bool.and_eq_true] at h
    simp only [evS]
    refine (simS hc a env s h.1).bind fun fl s => ?_
    cases fl with
    | nx e => exact simS hc r e s h.2
    | _ => rfl
  | .set tg e, env, s, h => by
    simp only [evS]
    refine (simE hc e env s h).bind fun x s => ?_
    cases tg with
    | var i =>
      show Out.ok (Fl.nx _) _ = .ok (shFl st0.length (.nx _)) _
      rw [shE_set1]
      try rfl
    | _ =>
      simp only
      rw [res_sh, setTg_sh]
      cases setTg _ (resolve s x) env <;> first | trivial | rfl
  | .new i e, env, s, h => by
    simp only [evS]
    refine (sim_new hc (b := true) h).bind fun x s => ?_
    show Out.ok (Fl.nx _) _ = .ok (shFl st0.length (.nx _)) _
    rw [shE_set1]
    try rfl
  | .setIx c ix e, env, s, h => by
    simp only [frS, Bool.and_eq_true] at h
    simp only [evS]
    refine (simE hc e env s h.2.2).bind fun v s => (simE hc c env s h.1).bind fun x s => (simE hc ix env s h.2.1).bind fun k s => sim_esc.bind fun v s => ?_
    have : (putIx (sh st0.length k) (id v)) = putIx k v := by funext d; exact putIx_sh
    rw [this]
    exact sim_wr
  | .par i ni j nj a b, env, s, h => by
    simp only [frS, Bool.and_eq_true] at h
    simp only [evS]
    refine (sim_new hc h.1).bind fun x s => (sim_new hc h.2).bind fun y s => ?_
    show Out.ok (Fl.nx _) _ = .ok (shFl st0.length (.nx _)) _
    rw [shE_set1, shE_set1]
    try rfl
  | .aug i op e, env, s, h => by
    simp only [evS, shE_get]
    cases env[i]? with
    | none => trivial
    | some o =>
      cases o with
      | none => trivial
      | some x =>
        simp only [Option.map_some]
        refine (simE hc e env s h).bind fun y s => ?_
        rw [res_sh, aug_sh]
        cases k : augD op x (resolve s y) with
        | none => trivial
        | some z =>
          show Out.ok (Fl.nx _) _ = .ok (shFl st0.length (.nx _)) _
          have := shE_set1 (n := st0.length) (env := env) (i := i) (d := z)
          rw [sh_no (tl_no (aug_tl k))] at this
          rw [this]
          try rfl
  | .augIx c ix op e, env, s, h => by
    simp only [frS, Bool.and_eq_true] at h
    simp only [evS]
    refine (simE hc c env s h.1).bind fun x s => (simE hc ix env s h.2.1).bind fun k s => lstAt_sh.bind fun o s => (simE hc e env s h.2.2).bind fun y s => ?_
    rw [res_sh]
    refine Sim.opt.bind fun z s => ?_
    have : (putIx (sh st0.length k) (id z)) = putIx k z := by funext d; exact putIx_sh
    rw [this]
    exact sim_wr
  | .app c e, env, s, h => by
    simp only [frS, Bool.and_eq_true] at h
    simp only [evS]
    refine (simE hc c env s h.1).bind fun x s => ?_
    rw [res_sh]
    by_cases k : isLst (resolve s x) = true
    · simp only [k, if_true]
      exact (simE hc e env s h.2).bind fun v s => sim_esc.bind fun v s => sim_wr
    · simp only [k]; trivial
  | .ext c e, env, s, h => by
    simp only [frS, Bool.and_eq_true] at h
    simp only [evS]
    refine (simE hc c env s h.1).bind fun x s => ?_
    rw [res_sh]
    by_cases k : isLst (resolve s x) = true
    · simp only [k, if_true]
      refine (simE hc e env s h.2).bind fun v s => ?_
      rw [res_sh]
      exact sim_wr
    · simp only [k]; trivial
  | .popTo _ _, env, s, h => by simp [frS] at h
  | .popTg tg c, env, s, h => by
    simp only [evS]
    refine (simE hc c env s h).bind fun x s => ?_
    rw [res_sh]
    cases popD (resolve s x) with
    | none => trivial
    | some p =>
      simp only
      rw [wr_sh]
      cases wr s x fun d => (popD d).map (·.2) with
      | none => trivial
      | some st' =>
        simp only [Option.map_some, setTg_sh]
        cases setTg tg p.1 env <;> first | trivial | rfl
  | .expr e, env, s, h => by
    simp only [evS]
    exact (simE hc e env s h).bind fun x s => rfl
  | .ret e, env, s, h => by
    simp only [evS]
    exact (simE hc e env s h).bind fun x s => rfl
  | .retN, env, s, _ => rfl
  | .ite c a b, env, s, h => by
    simp only [frS, Bool.and_eq_true] at h
    simp only [evS]
    exact (simE hc c env s h.1).bind fun x s => sim_truth (simS hc a env s h.2.1) (simS hc b env s h.2.2)
  | .for tg src b, env, s, h => by
    simp only [frS, Bool.and_eq_true] at h
    simp only [evS]
    refine (sim_src (simE hc src env s h.1)).bind fun l s => sim_forL (fun x env s => ?_) l env s
    rw [setTg_sh]
    cases setTg tg x env with
    | none => trivial
    | some e => exact simS hc b e s h.2
  | .whil c b, env, s, h => by
    simp only [frS, Bool.and_eq_true] at h
    simp only [evS]
    refine sim_whL (fun env s => (simE hc c env s h.1).bind fun x s => ?_) (fun env s => simS hc b env s h.2) fuel env s
    rw [res_sh]
    exact Sim.opt
  | .brk, env, s, _ => rfl
  | .cont, env, s, _ => rfl
  | .pass, env, s, _ => rfl
  | .bad, env, s, _ => trivial
  | .rais _ _, env, s, h => by simp [frS] at h
  | .tryc _ _ _ _, env, s, h => by simp [frS] at h
theorem start_sh {n m : Nat} {as : List D} : start m (as.map (sh n)) = shE n (start m as) := by
  simp [start, shE]
theorem take_sh {s : Store} {m : Nat} : (st0 ++ s).take (st0.length + m) = st0 ++ s.take m := by
  rw [List.take_append, List.take_of_length_le (Nat.le_add_right _ _)]
  congr 2
  omega
theorem sim_fin {s : Store} {m : Nat} {d : D} : Sim (sh st0.length) st0 (fin m s d) (fin (st0.length + m) (st0 ++ s) (sh st0.length d)) := by
  cases d with
  | loc l =>
    have e := res_sh (st0 := st0) s (.loc l)
    simp only [sh] at e
    simp only [sh, fin, take_sh]
    by_cases k : l < m
    · have k2 : st0.length + l < st0.length + m := by omega
      simp only [k, k2, if_true]
      try rfl
    · have k2 : ¬ st0.length + l < st0.length + m := by omega
      simp only [k, k2, if_false]
      rw [e]
      cases h : isLoc (resolve s (.loc l)) with
      | true => trivial
      | false =>
        show Out.ok _ _ = Out.ok (sh st0.length (resolve s (.loc l))) _
        rw [sh_no h]
  | _ =>
    simp only [fin, sh, take_sh]
    try rfl
def frT (T : List Fn) : Bool := T.all fun f => frS f.body
theorem sim_call {T : List Fn} (hT : frT T = true) : ∀ k k', k ≤ k' → SimC st0 (callF T k) (callF T k')
  | 0, _, _ => fun _ _ _ => trivial
  | k + 1, 0, h => absurd h (Nat.not_succ_le_zero k)
  | k + 1, k' + 1, hk => fun j as s => by
    have ih := sim_call hT k k' (Nat.le_of_succ_le_succ hk)
    simp only [callF]
    cases e : T[j]? with
    | none => trivial
    | some f =>
      have hf : frS f.body = true := List.all_eq_true.mp hT f (List.mem_of_getElem? e)
      simp only [runFn, List.length_map, start_sh]
      by_cases h : as.length = f.ps
      · simp only [h, if_true]
        have b := simS ih f.body (start f.sl as) s hf
        cases f.keep with
        | true =>
          simp only
          cases k : evS (callF T k) f.body (start f.sl as) s with
          | ok fl s' =>
            rw [k] at b
            rw [show _ = _ from b]
            cases fl <;> first | trivial | rfl
          | exc e s' => trivial
          | stuck => trivial
        | false =>
          simp only
          cases k : evS (callF T k) f.body (start f.sl as) s with
          | ok fl s' =>
            rw [k] at b
            rw [show _ = _ from b]
            cases fl with
            | nx e =>
              simp only [shFl, List.length_append, take_sh]
              try rfl
            | rt d =>
              simp only [shFl, List.length_append]
              exact sim_fin
            | _ => trivial
          | exc e s' => trivial
          | stuck => trivial
      · simp only [h, if_false]; trivial
/-- a call without cells, tried at no cells and at one level, is so at any cells and at any level above -/
theorem frame {T : List Fn} (hT : frT T = true) {k j : Nat} {as : List D} {d : D} {s' : Store} (h : callF T k j as [] = .ok d s') (ha : as.all (fun a => !isLoc a) = true) (hd : isLoc d = false) {k' : Nat} (hk : k ≤ k') (st : Store) : callF T k' j as st = .ok d (st ++ s') := by
  have b := sim_call (st0 := st) hT k k' hk j as []
  rw [h] at b
  have e : as.map (sh st.length) = as := by
    rw [List.map_congr_left (g := id) fun a m => by
      have := List.all_eq_true.mp ha a m
      simp only [Bool.not_eq_true'] at this
      exact sh_no this]
    simp
  have b : callF T k' j (as.map (sh st.length)) (st ++ []) = .ok (sh st.length d) (st ++ s') := b
  rw [e, List.append_nil, sh_no hd] at b
  exact b
end
end Py
end
section
set_option Elab.async false
set_option linter.all false
set_option maxRecDepth 100000
set_option maxHeartbeats 0
namespace Py
namespace K0
theorem frOk : frT k00.T = true := by decide +kernel
/-- to grow is to have all of the cells -/
def landB (a b : Nat) : Bool := Nat.beq (Nat.land a b) a
theorem land_all : ([2, 3, 4, 5, 6].all fun n => (List.range (2 ^ n)).all fun a => (List.range (2 ^ n)).all fun b => growM n a b == landB a b) = true := by decide +kernel
theorem land_is {n a b : Nat} (h : Sz n) (ha : a < 2 ^ n) (hb : b < 2 ^ n) : growM n a b = landB a b := by
  have hn : n ∈ [2, 3, 4, 5, 6] := by rcases h.cases with rfl | rfl | rfl | rfl | rfl <;> simp
  have := List.all_eq_true.mp (List.all_eq_true.mp (List.all_eq_true.mp land_all n hn) a (List.mem_range.mpr ha)) b (List.mem_range.mpr hb)
  exact eq_of_beq this
theorem grow_is {n : Nat} (h : Sz n) (k a b : Nat) (st : Store) (ha : a < 2 ^ n) (hb : b < 2 ^ n) : callF k00.T (k + 2) 48 [.int (.ofNat n), .int (.ofNat a), .int (.ofNat b)] st = .ok (.bl (landB a b)) st := by
  rw [grows_k00 (by unfold Sz at h; omega), land_is h ha hb]
def inks : List Nat := (List.range 64).map fun s => (cellsM 6 s).length
def tI : TrN 1 := (Option.none :: (List.range 64).map (fun s => some (D.int (.ofNat (cellsM 6 s).length))) : List (Option D))
def tCi : TrN 1 := (Option.none :: (List.range 64).map (fun s => some (D.tup (cellsM 6 s))) : List (Option D))
theorem tabF {k0 j n : Nat} {t : TrN n} (h : (TrN.ents n t []).map (fun e => callF k00.T k0 j e.1 []) = (TrN.ents n t []).map (fun e => .ok e.2 [])) (c : (TrN.ents n t []).all (fun e => e.1.all (fun a => !isLoc a) && !isLoc e.2) = true) {as : List D} {d : D} (g : TrN.get n t as = some d) (k : Nat) (st : Store) : callF k00.T (k + k0) j as st = .ok d st := by
  have m := TrN.get_mem n t as [] d g
  have e := map_both h m
  have c2 := List.all_eq_true.mp c _ m
  simp only [Bool.and_eq_true, Bool.not_eq_true'] at c2
  have := frame frOk (k' := k + k0) e c2.1 c2.2 (Nat.le_add_left _ _) st
  rwa [List.append_nil] at this
theorem tI0 : (TrN.ents 1 tI []).map (fun e => callF k00.T 2 7 e.1 []) = (TrN.ents 1 tI []).map (fun e => .ok e.2 []) := by kernel_rfl
theorem tI1 : (TrN.ents 1 tI []).all (fun e => e.1.all (fun a => !isLoc a) && !isLoc e.2) = true := by decide +kernel
theorem tCi0 : (TrN.ents 1 tCi []).map (fun e => callF k00.T 2 8 e.1 []) = (TrN.ents 1 tCi []).map (fun e => .ok e.2 []) := by kernel_rfl
theorem tCi1 : (TrN.ents 1 tCi []).all (fun e => e.1.all (fun a => !isLoc a) && !isLoc e.2) = true := by decide +kernel
def m46 : List D → Option D
  | [.int (.ofNat n), .int (.ofNat s)] => match Nat.ble n 12 with
    | true => some (.lst (cellsM n s))
    | false => .none
  | _ => .none
def m48 : List D → Option D
  | [.int (.ofNat n), .int (.ofNat a), .int (.ofNat b)] => match (Nat.ble 2 n && Nat.ble n 6) && (Nat.blt a (2 ^ n) && Nat.blt b (2 ^ n)) with
    | true => some (.bl (landB a b))
    | false => .none
  | _ => .none
def MF (j : Nat) (as : List D) : Option D := match Nat.beq j 46 with
  | true => m46 as
  | false => match Nat.beq j 48 with
    | true => m48 as
    | false => match Nat.beq j 7 with
      | true => TrN.get 1 tI as
      | false => match Nat.beq j 8 with
        | true => TrN.get 1 tCi as
        | false => .none
theorem vF : ∀ k j as d st, MF j as = some d → callF k00.T (k + 3) j as st = .ok d st := by
  intro k j as d st h
  unfold MF at h
  cases e1 : Nat.beq j 46 with
  | true =>
    rw [e1] at h
    obtain rfl := Nat.eq_of_beq_eq_true e1
    simp only [m46] at h
    split at h
    · rename_i n s
      cases hb : Nat.ble n 12 with
      | false => rw [hb] at h; exact nomatch h
      | true =>
        rw [hb] at h
        cases h
        exact cells_k00 (k := k + 2) (Nat.le_of_ble_eq_true hb)
    · exact nomatch h
  | false =>
    rw [e1] at h
    cases e2 : Nat.beq j 48 with
    | true =>
      rw [e2] at h
      obtain rfl := Nat.eq_of_beq_eq_true e2
      simp only [m48] at h
      split at h
      · rename_i n a b
        cases hb : (Nat.ble 2 n && Nat.ble n 6) && (Nat.blt a (2 ^ n) && Nat.blt b (2 ^ n)) with
        | false => rw [hb] at h; exact nomatch h
        | true =>
          rw [hb] at h
          cases h
          simp only [Bool.and_eq_true] at hb
          have h1 := Nat.le_of_ble_eq_true hb.1.1
          have h2 := Nat.le_of_ble_eq_true hb.1.2
          have h3 : a + 1 ≤ 2 ^ n := Nat.le_of_ble_eq_true hb.2.1
          have h4 : b + 1 ≤ 2 ^ n := Nat.le_of_ble_eq_true hb.2.2
          exact grow_is ⟨h1, h2⟩ (k + 1) a b st h3 h4
      · exact nomatch h
    | false =>
      rw [e2] at h
      cases e3 : Nat.beq j 7 with
      | true =>
        rw [e3] at h
        obtain rfl := Nat.eq_of_beq_eq_true e3
        exact tabF tI0 tI1 h (k + 1) st
      | false =>
        rw [e3] at h
        cases e4 : Nat.beq j 8 with
        | true =>
          rw [e4] at h
          obtain rfl := Nat.eq_of_beq_eq_true e4
          exact tabF tCi0 tCi1 h (k + 1) st
        | false => rw [e4] at h; exact nomatch h
end K0
end Py
end
section
set_option Elab.async false
set_option linter.all false
set_option maxRecDepth 100000
set_option maxHeartbeats 1000000
namespace Py
namespace K0
theorem chk16 {n : Nat} (h : Sz n) (k a b : Nat) (st : Store) (ha : a < 2 ^ n) (hb : b < 2 ^ n) : callF k00.T (k + 5) 16 [.int (.ofNat n), .int (.ofNat a), .int (.ofNat b)] st = .ok .none st := by
  have T16 : k00.T[16]? = some k00.f16 := rfl
  have c1 : ∀ st, callF k00.T (k + 4) 14 [.int (.ofNat n)] st = .ok .none st := fun st => chk14 h (k + 1) st
  have c2 : ∀ t st, callF k00.T (k + 4) 15 [.int (.ofNat n), .int (.ofNat a), t] st = .ok .none st := fun t st => chk15 h k a t st ha
  have c3 : ∀ t st, callF k00.T (k + 4) 15 [.int (.ofNat n), .int (.ofNat b), t] st = .ok .none st := fun t st => chk15 h k b t st hb
  have st0 : start 3 [.int (.ofNat n), .int (.ofNat a), .int (.ofNat b)] = [some (.int (.ofNat n)), some (.int (.ofNat a)), some (.int (.ofNat b))] := rfl
  rw [callF]
  simp only [T16, runFn, k00.f16, List.length_cons, List.length_nil, Nat.reduceAdd, if_true, evS, st0, evE, evL, List.getElem?_cons_zero, List.getElem?_cons_succ, ok_bind, callE, c1, c2, c3]
def szB (n : Nat) : Bool := Nat.ble 2 n && Nat.ble n 6
theorem szB_is {n : Nat} (h : szB n = true) : Sz n := by
  simp only [szB, Bool.and_eq_true] at h
  exact ⟨Nat.le_of_ble_eq_true h.1, Nat.le_of_ble_eq_true h.2⟩
def m14 : List D → Option D
  | [.int (.ofNat n)] => match szB n with
    | true => some .none
    | false => .none
  | _ => .none
def m15 : List D → Option D
  | [.int (.ofNat n), .int (.ofNat a), _] => match szB n && Nat.blt a (2 ^ n) with
    | true => some .none
    | false => .none
  | _ => .none
def m16 : List D → Option D
  | [.int (.ofNat n), .int (.ofNat a), .int (.ofNat b)] => match szB n && (Nat.blt a (2 ^ n) && Nat.blt b (2 ^ n)) with
    | true => some .none
    | false => .none
  | _ => .none
def m45 : List D → Option D
  | [.int i, .int j] => some (.bl (ieq i j))
  | [.bl a, .bl b] => some (.bl (a == b))
  | [.none, .none] => some (.bl true)
  | _ => .none
def MG (j : Nat) (as : List D) : Option D := match Nat.beq j 16 with
  | true => m16 as
  | false => match Nat.beq j 15 with
    | true => m15 as
    | false => match Nat.beq j 14 with
      | true => m14 as
      | false => match Nat.beq j 45 with
        | true => m45 as
        | false => MF j as
theorem vG : ∀ k j as d st, MG j as = some d → callF k00.T (k + 5) j as st = .ok d st := by
  intro k j as d st h
  unfold MG at h
  cases e1 : Nat.beq j 16 with
  | true =>
    rw [e1] at h
    obtain rfl := Nat.eq_of_beq_eq_true e1
    simp only [m16] at h
    split at h
    · rename_i n a b
      cases hb : szB n && (Nat.blt a (2 ^ n) && Nat.blt b (2 ^ n)) with
      | false => rw [hb] at h; exact nomatch h
      | true =>
        rw [hb] at h
        cases h
        simp only [Bool.and_eq_true] at hb
        have h3 : a + 1 ≤ 2 ^ n := Nat.le_of_ble_eq_true hb.2.1
        have h4 : b + 1 ≤ 2 ^ n := Nat.le_of_ble_eq_true hb.2.2
        exact chk16 (szB_is hb.1) k a b st h3 h4
    · exact nomatch h
  | false =>
    rw [e1] at h
    cases e2 : Nat.beq j 15 with
    | true =>
      rw [e2] at h
      obtain rfl := Nat.eq_of_beq_eq_true e2
      simp only [m15] at h
      split at h
      · rename_i n a t
        cases hb : szB n && Nat.blt a (2 ^ n) with
        | false => rw [hb] at h; exact nomatch h
        | true =>
          rw [hb] at h
          cases h
          simp only [Bool.and_eq_true] at hb
          have h3 : a + 1 ≤ 2 ^ n := Nat.le_of_ble_eq_true hb.2
          exact chk15 (szB_is hb.1) (k + 1) a t st h3
      · exact nomatch h
    | false =>
      rw [e2] at h
      cases e3 : Nat.beq j 14 with
      | true =>
        rw [e3] at h
        obtain rfl := Nat.eq_of_beq_eq_true e3
        simp only [m14] at h
        split at h
        · rename_i n
          cases hb : szB n with
          | false => rw [hb] at h; exact nomatch h
          | true =>
            rw [hb] at h
            cases h
            exact chk14 (szB_is hb) (k + 2) st
        · exact nomatch h
      | false =>
        rw [e3] at h
        cases e4 : Nat.beq j 45 with
        | true =>
          rw [e4] at h
          obtain rfl := Nat.eq_of_beq_eq_true e4
          simp only [m45] at h
          split at h
          · cases h; exact same_int (k + 4) _ _ st
          · cases h; exact same_bl (k + 4) _ _ st
          · cases h; exact same_non (k + 4) st
          · exact nomatch h
        | false =>
          rw [e4] at h
          exact vF (k + 2) j as d st h
end K0
end Py
end
section
set_option Elab.async false
set_option linter.all false
set_option maxRecDepth 100000
set_option maxHeartbeats 1000000
namespace Py
namespace K0
def elt47 : Ex := match k00.f47.body with | .seq (.ret (.prim _ (.cons (.comp e _ _ _ _) _))) _ => e | _ => .nil
theorem s47_0 (cf : CallF) (a0 : Option D) (st : Store) : stepC cf elt47 [1] (.var 1) (.cst (.bl true)) [a0, none] (natD 0) st = .ok (some (natD 1)) st := by kernel_rfl
theorem s47_1 (cf : CallF) (a0 : Option D) (st : Store) : stepC cf elt47 [1] (.var 1) (.cst (.bl true)) [a0, none] (natD 1) st = .ok (some (natD 2)) st := by kernel_rfl
theorem s47_2 (cf : CallF) (a0 : Option D) (st : Store) : stepC cf elt47 [1] (.var 1) (.cst (.bl true)) [a0, none] (natD 2) st = .ok (some (natD 4)) st := by kernel_rfl
theorem s47_3 (cf : CallF) (a0 : Option D) (st : Store) : stepC cf elt47 [1] (.var 1) (.cst (.bl true)) [a0, none] (natD 3) st = .ok (some (natD 8)) st := by kernel_rfl
theorem s47_4 (cf : CallF) (a0 : Option D) (st : Store) : stepC cf elt47 [1] (.var 1) (.cst (.bl true)) [a0, none] (natD 4) st = .ok (some (natD 16)) st := by kernel_rfl
theorem s47_5 (cf : CallF) (a0 : Option D) (st : Store) : stepC cf elt47 [1] (.var 1) (.cst (.bl true)) [a0, none] (natD 5) st = .ok (some (natD 32)) st := by kernel_rfl
theorem s47_6 (cf : CallF) (a0 : Option D) (st : Store) : stepC cf elt47 [1] (.var 1) (.cst (.bl true)) [a0, none] (natD 6) st = .ok (some (natD 64)) st := by kernel_rfl
theorem s47_7 (cf : CallF) (a0 : Option D) (st : Store) : stepC cf elt47 [1] (.var 1) (.cst (.bl true)) [a0, none] (natD 7) st = .ok (some (natD 128)) st := by kernel_rfl
theorem s47_8 (cf : CallF) (a0 : Option D) (st : Store) : stepC cf elt47 [1] (.var 1) (.cst (.bl true)) [a0, none] (natD 8) st = .ok (some (natD 256)) st := by kernel_rfl
theorem s47_9 (cf : CallF) (a0 : Option D) (st : Store) : stepC cf elt47 [1] (.var 1) (.cst (.bl true)) [a0, none] (natD 9) st = .ok (some (natD 512)) st := by kernel_rfl
theorem s47_10 (cf : CallF) (a0 : Option D) (st : Store) : stepC cf elt47 [1] (.var 1) (.cst (.bl true)) [a0, none] (natD 10) st = .ok (some (natD 1024)) st := by kernel_rfl
theorem s47_11 (cf : CallF) (a0 : Option D) (st : Store) : stepC cf elt47 [1] (.var 1) (.cst (.bl true)) [a0, none] (natD 11) st = .ok (some (natD 2048)) st := by kernel_rfl
theorem s47 (cf : CallF) (a0 : Option D) (m : Nat) (h : m < 12) (st : Store) : stepC cf elt47 [1] (.var 1) (.cst (.bl true)) [a0, none] (natD m) st = .ok (some (natD (2 ^ m))) st := by
  have hm : m = 0 ∨ m = 1 ∨ m = 2 ∨ m = 3 ∨ m = 4 ∨ m = 5 ∨ m = 6 ∨ m = 7 ∨ m = 8 ∨ m = 9 ∨ m = 10 ∨ m = 11 := by omega
  rcases hm with rfl | rfl | rfl | rfl | rfl | rfl | rfl | rfl | rfl | rfl | rfl | rfl
  · exact s47_0 cf a0 st
  · exact s47_1 cf a0 st
  · exact s47_2 cf a0 st
  · exact s47_3 cf a0 st
  · exact s47_4 cf a0 st
  · exact s47_5 cf a0 st
  · exact s47_6 cf a0 st
  · exact s47_7 cf a0 st
  · exact s47_8 cf a0 st
  · exact s47_9 cf a0 st
  · exact s47_10 cf a0 st
  · exact s47_11 cf a0 st
def sumP : List Nat → Nat
  | [] => 0
  | k :: r => 2 ^ k + sumP r
theorem ints_pow : ∀ l : List Nat, intsD (l.map fun k => natD (2 ^ k)) = some (l.map fun k => Int.ofNat (2 ^ k))
  | [] => rfl
  | k :: r => by
    simp only [List.map_cons, natD, intsD]
    have := ints_pow r
    simp only [natD] at this
    rw [this]
    try rfl
theorem sum_pow : ∀ l : List Nat, (l.map fun k => Int.ofNat (2 ^ k)).sum = Int.ofNat (sumP l)
  | [] => rfl
  | k :: r => by
    simp only [List.map_cons, List.sum_cons, sumP]
    rw [sum_pow r]
    try rfl
def g47 : D → Option D
  | .int (.ofNat m) => some (natD (2 ^ m))
  | _ => .none
theorem fm47 : ∀ l : List Nat, (l.map natD).filterMap g47 = l.map fun m => natD (2 ^ m)
  | [] => rfl
  | k :: r => by
    rw [List.map_cons, List.filterMap_cons_some (show g47 (natD k) = some (natD (2 ^ k)) from rfl), fm47 r]
    try rfl
theorem body47 : k00.f47.body = .seq (.ret (.prim .sum (.cons (.comp elt47 [1] (.var 1) (.var 0) (.cst (.bl true))) .nil))) .nil := by kernel_rfl
theorem state_is (k : Nat) (l : List Nat) (h : ∀ m ∈ l, m < 12) (hl : l.length ≤ 4096) (st : Store) : callF k00.T (k + 1) 47 [.lst (l.map natD)] st = .ok (.int (.ofNat (sumP l))) st := by
  have T47 : k00.T[47]? = some k00.f47 := rfl
  have st0 : start 2 [.lst (l.map natD)] = [some (.lst (l.map natD)), none] := rfl
  have f1 : k00.f47.keep = true := rfl
  have f2 : k00.f47.ps = 1 := rfl
  have f3 : k00.f47.sl = 2 := rfl
  have c : compL (stepC (callF k00.T k) elt47 [1] (.var 1) (.cst (.bl true)) [some (.lst (l.map natD)), none]) (l.map natD) st = .ok (l.map fun m => natD (2 ^ m)) st := by
    have := compL_pure (f := stepC (callF k00.T k) elt47 [1] (.var 1) (.cst (.bl true)) [some (.lst (l.map natD)), none]) (g := g47) (l.map natD) st (fun x hx st => by
      obtain ⟨m, hm, rfl⟩ := List.mem_map.mp hx
      exact s47 _ _ m (h m hm) st)
    rw [this, fm47]
  have e : evE (callF k00.T k) (.comp elt47 [1] (.var 1) (.var 0) (.cst (.bl true))) [some (.lst (l.map natD)), none] st = .ok (.lst (l.map fun m => natD (2 ^ m))) st := by
    have hn : (l.map fun m => natD (2 ^ m)).length ≤ sizeMax := by
      rw [List.length_map]
      have : sizeMax = 16777216 := rfl
      omega
    rw [evE_comp]
    have s : srcL (evE (callF k00.T k) (.var 0) [some (.lst (l.map natD)), none] st) = .ok (l.map natD) st := rfl
    rw [s]
    simp only [ok_bind, restC, c, Out.noexc, List.nil_append, hn, if_true]
  have ps : primD .sum [.lst (l.map fun m => natD (2 ^ m))] = some (.int (.ofNat (sumP l))) := by
    show pSum _ = _
    unfold pSum
    simp only [intsL, ints_pow, Option.map_some, sum_pow]
  rw [callF]
  simp only [T47, runFn, f1, f2, f3, body47, List.length_cons, List.length_nil, Nat.zero_add, if_true, st0]
  rw [evS, evS]
  have el : evL (callF k00.T k) (.cons (.comp elt47 [1] (.var 1) (.var 0) (.cst (.bl true))) .nil) [some (.lst (l.map natD)), none] st = .ok [.lst (l.map fun m => natD (2 ^ m))] st := by
    show ((evE (callF k00.T k) (.comp elt47 [1] (.var 1) (.var 0) (.cst (.bl true))) [some (.lst (l.map natD)), none] st).bind fun x st => (evL _ .nil _ st).bind fun l st => .ok (x :: l) st) = _
    rw [e]
    try rfl
  have rs : resolve st (.lst (l.map fun m => natD (2 ^ m))) = .lst (l.map fun m => natD (2 ^ m)) := rfl
  have ep : evE (callF k00.T k) (.prim .sum (.cons (.comp elt47 [1] (.var 1) (.var 0) (.cst (.bl true))) .nil)) [some (.lst (l.map natD)), none] st = .ok (.int (.ofNat (sumP l))) st := by
    show ((evL (callF k00.T k) (.cons (.comp elt47 [1] (.var 1) (.var 0) (.cst (.bl true))) .nil) [some (.lst (l.map natD)), none] st).bind fun l st => opg st (primD .sum (l.map (resolve st)))) = _
    rw [el]
    simp only [ok_bind, List.map_cons, List.map_nil, rs, ps]
    try rfl
  rw [ep]
  try rfl
/-- small whole numbers -/
def natsS : List D → Option (List Nat)
  | [] => some []
  | .int (.ofNat m) :: r => match Nat.blt m 12 with
    | true => (natsS r).map (m :: ·)
    | false => .none
  | _ => .none
theorem natsS_is : ∀ {l : List D} {ks : List Nat}, natsS l = some ks → l = ks.map natD ∧ ∀ m ∈ ks, m < 12
  | [], ks, h => by cases h; exact ⟨rfl, fun _ z => nomatch z⟩
  | .int (.ofNat m) :: r, ks, h => by
    simp only [natsS] at h
    cases hb : Nat.blt m 12 with
    | false => rw [hb] at h; exact nomatch h
    | true =>
      rw [hb] at h
      simp only at h
      cases k : natsS r with
      | none => rw [k] at h; exact nomatch h
      | some ms =>
        rw [k] at h
        cases h
        obtain ⟨i1, i2⟩ := natsS_is k
        have hm : m + 1 ≤ 12 := Nat.le_of_ble_eq_true hb
        refine ⟨by rw [i1]; rfl, fun x hx => ?_⟩
        rcases List.mem_cons.mp hx with rfl | hx
        · exact hm
        · exact i2 x hx
  | .int (.negSucc _) :: r, ks, h => nomatch (show (Option.none : Option (List Nat)) = some ks from h)
  | .none :: r, ks, h => nomatch (show (Option.none : Option (List Nat)) = some ks from h)
  | .bl _ :: r, ks, h => nomatch (show (Option.none : Option (List Nat)) = some ks from h)
  | .str _ :: r, ks, h => nomatch (show (Option.none : Option (List Nat)) = some ks from h)
  | .fn _ :: r, ks, h => nomatch (show (Option.none : Option (List Nat)) = some ks from h)
  | .loc _ :: r, ks, h => nomatch (show (Option.none : Option (List Nat)) = some ks from h)
  | .tup _ :: r, ks, h => nomatch (show (Option.none : Option (List Nat)) = some ks from h)
  | .lst _ :: r, ks, h => nomatch (show (Option.none : Option (List Nat)) = some ks from h)
  | .dct _ _ :: r, ks, h => nomatch (show (Option.none : Option (List Nat)) = some ks from h)
  | .ro _ :: r, ks, h => nomatch (show (Option.none : Option (List Nat)) = some ks from h)
def m47 : List D → Option D
  | [.lst l] => match Nat.ble l.length 64 with
    | true => (natsS l).map fun ks => .int (.ofNat (sumP ks))
    | false => .none
  | _ => .none
def MH (j : Nat) (as : List D) : Option D := match Nat.beq j 47 with
  | true => m47 as
  | false => MG j as
theorem vH : ∀ k j as d st, MH j as = some d → callF k00.T (k + 5) j as st = .ok d st := by
  intro k j as d st h
  unfold MH at h
  cases e1 : Nat.beq j 47 with
  | false => rw [e1] at h; exact vG k j as d st h
  | true =>
    rw [e1] at h
    obtain rfl := Nat.eq_of_beq_eq_true e1
    simp only [m47] at h
    split at h
    · rename_i l
      cases hb : Nat.ble l.length 64 with
      | false => rw [hb] at h; exact nomatch h
      | true =>
        rw [hb] at h
        simp only at h
        cases k2 : natsS l with
        | none => rw [k2] at h; exact nomatch h
        | some ks =>
          rw [k2] at h
          cases h
          obtain ⟨rfl, i2⟩ := natsS_is k2
          have := Nat.le_of_ble_eq_true hb
          rw [List.length_map] at this
          exact state_is (k + 4) ks i2 (by omega) st
    · exact nomatch h
end K0
end Py
end
section
set_option Elab.async false
set_option linter.all false
set_option maxRecDepth 100000
set_option maxHeartbeats 0
namespace Py
namespace K0
def hdS : Sm → Sm
  | .seq s _ => s
  | s => s
def tlS : Sm → Sm
  | .seq _ r => r
  | s => s
def tlK : Nat → Sm → Sm
  | 0, s => s
  | n + 1, s => tlK n (tlS s)
def twS (i : Nat) : Sm := hdS (tlK i k00.f51.body)
def pre : Sm := .seq (twS 0) (.seq (twS 1) (.seq (twS 2) (.seq (twS 3) (.seq (twS 4) .nil))))
def tail : Sm := tlK 8 k00.f51.body
def env0 (n a b : Nat) : Env := [some (natD n), some (natD a), some (natD b), none, none, none, none, none, none, none, none]
def env1 (n a b : Nat) : Env := [some (natD n), some (natD a), some (natD b), some (.lst (cellsM n a)), some (.lst (cellsM n b)), some (.bl (landB a b)), none, none, none, none, none]
def okT : Out Fl → Bool
  | .ok (.rt (.bl true)) _ => true
  | _ => false
end K0
end Py
end
section
set_option Elab.async false
set_option linter.all false
set_option maxRecDepth 100000
set_option maxHeartbeats 1000000
namespace Py
namespace K0
theorem ieq_self (i : Int) : ieq i i = true := by rw [ieq_iff]; simp
theorem ne_i {a b : Int} : cmpD .ne (.int a) (.int b) = some (!ieq a b) := by rfl
def same45 : Ex := match k00.f45.body with | .seq (.ite _ (.seq _ (.seq (.ret (.prim _ (.cons (.comp e _ _ _ _) _))) _)) _) _ => e | _ => .nil
theorem body45 : ∃ r, k00.f45.body = .seq (.ite (.or (.prim .istuple (.cons (.var 0) .nil)) (.prim .istuple (.cons (.var 1) .nil)))
   (.seq (.ite (.or (.not (.prim .istuple (.cons (.var 0) .nil))) (.or (.not (.prim .istuple (.cons (.var 1) .nil))) (.cmp .ne (.prim .len (.cons (.var 0) .nil)) (.prim .len (.cons (.var 1) .nil))))) (.seq (.ret (.cst (.bl false))) .nil) .nil)
   (.seq (.ret (.prim .all (.cons (.comp same45 [2] (.var 2) (.prim .range1 (.cons (.prim .len (.cons (.var 1) .nil)) .nil)) (.cst (.bl true))) .nil))) .nil)) .nil) r := ⟨tlS k00.f45.body, by kernel_rfl⟩
theorem same45T : same45 = .call 45 (.cons (.ix (.var 0) (.var 2)) (.cons (.ix (.var 1) (.var 2)) .nil)) := by kernel_rfl
theorem all_rep : ∀ n : Nat, primD .all [.lst (List.replicate n (.bl true))] = some (.bl true) := fun n => by
  show (blsD (List.replicate n (.bl true))).map (fun l => D.bl (l.all id)) = _
  have : blsD (List.replicate n (D.bl true)) = some (List.replicate n true) := by
    induction n with
    | zero => rfl
    | succ n ih => simp only [List.replicate_succ, blsD, ih]; rfl
  rw [this]
  simp
theorem same_tup (k : Nat) (l : List Nat) (hl : l.length ≤ 4096) (st : Store) : callF k00.T (k + 2) 45 [.tup (l.map natD), .tup (l.map natD)] st = .ok (.bl true) st := by
  have T45 : k00.T[45]? = some k00.f45 := rfl
  have f1 : k00.f45.keep = true := rfl
  have f2 : k00.f45.ps = 2 := rfl
  have f3 : k00.f45.sl = 3 := rfl
  have st0 : start 3 [.tup (l.map natD), .tup (l.map natD)] = [some (.tup (l.map natD)), some (.tup (l.map natD)), none] := rfl
  have it : primD .istuple [.tup (l.map natD)] = some (.bl true) := rfl
  have ln : primD .len [.tup (l.map natD)] = some (.int (.ofNat l.length)) := by
    show some (D.int ((l.map natD).length : Int)) = _
    rw [List.length_map]
    try rfl
  have rt : ∀ st, resolve st (.tup (l.map natD)) = .tup (l.map natD) := fun st => rfl
  have rb : ∀ st b, resolve st (.bl b) = .bl b := fun st b => rfl
  have ri : ∀ st i, resolve st (.int i) = .int i := fun st i => rfl
  have ne : cmpD .ne (.int (.ofNat l.length)) (.int (.ofNat l.length)) = some false := by
    rw [ne_i, ieq_self]
    try rfl
  have step : ∀ i, i < l.length → ∀ st, stepC (callF k00.T (k + 1)) same45 [2] (.var 2) (.cst (.bl true)) [some (.tup (l.map natD)), some (.tup (l.map natD)), none] (natD i) st = .ok (some (.bl true)) st := fun i hi st => by
    have x : ixD (.tup (l.map natD)) (natD i) = some (natD l[i]) := by
      show ((idx (l.map natD).length (.ofNat i)).bind _ : Option D) = _
      simp [idx, hi]
    have c : callF k00.T (k + 1) 45 [natD l[i], natD l[i]] st = .ok (.bl true) st := by
      show callF k00.T (k + 1) 45 [.int (.ofNat l[i]), .int (.ofNat l[i])] st = _
      rw [same_int, ieq_self]
    have sg : setTg (.var 2) (natD i) (wipe [some (.tup (l.map natD)), some (.tup (l.map natD)), none] [2]) = some [some (.tup (l.map natD)), some (.tup (l.map natD)), some (natD i)] := rfl
    have rn : ∀ st, resolve st (natD i) = natD i := fun st => rfl
    have op : ∀ st m, opg st (some (natD m)) = .ok (natD m) st := fun st m => rfl
    simp only [stepC, sg, same45T, evE, evL, ok_bind, rb, truth, List.getElem?_cons_zero, List.getElem?_cons_succ, rt, rn, x, op, callE, c, esc]
  have comp : evE (callF k00.T (k + 1)) (.comp same45 [2] (.var 2) (.prim .range1 (.cons (.prim .len (.cons (.var 1) .nil)) .nil)) (.cst (.bl true))) [some (.tup (l.map natD)), some (.tup (l.map natD)), none] st = .ok (.lst (List.replicate l.length (.bl true))) st := by
    have rg : primD .range1 [.int (.ofNat l.length)] = some (.lst (rng 0 l.length)) := by
      show range12 0 (.ofNat l.length) = _
      have i1 : in62 0 = true := by decide
      have i2 : in62 (.ofNat l.length) = true := by
        simp only [in62, ile_iff, ilt_iff, Bool.and_eq_true, decide_eq_true_eq, p62]
        simp only [Int.ofNat_eq_natCast]
        omega
      have i3 : (Int.ofNat l.length - 0).toNat = l.length := by simp
      unfold range12
      rw [i1, i2, i3]
      have : l.length ≤ sizeMax := by have : sizeMax = 16777216 := rfl; omega
      simp [this]
    have og : ∀ st m, opg st (some (.int m)) = .ok (.int m) st := fun st m => rfl
    have ol : ∀ st m, opg st (some (.lst m)) = .ok (.lst m) st := fun st m => rfl
    have s : srcL (evE (callF k00.T (k + 1)) (.prim .range1 (.cons (.prim .len (.cons (.var 1) .nil)) .nil)) [some (.tup (l.map natD)), some (.tup (l.map natD)), none] st) = .ok ((List.range l.length).map natD) st := by
      simp only [evE, evL, List.getElem?_cons_zero, List.getElem?_cons_succ, ok_bind, List.map_cons, List.map_nil, rt, ln, og, ri, rg, ol, srcL, esc, srcOf, opt_some, rng0]
    have c : compL (stepC (callF k00.T (k + 1)) same45 [2] (.var 2) (.cst (.bl true)) [some (.tup (l.map natD)), some (.tup (l.map natD)), none]) ((List.range l.length).map natD) st = .ok (List.replicate l.length (.bl true)) st := by
      have := compL_pure (g := fun _ => some (.bl true)) ((List.range l.length).map natD) st (fun x hx st => by
        obtain ⟨m, hm, rfl⟩ := List.mem_map.mp hx
        exact step m (List.mem_range.mp hm) st)
      rw [this]
      congr 1
      rw [List.filterMap_map]
      have : ∀ l : List Nat, l.filterMap ((fun _ => some (D.bl true)) ∘ natD) = List.replicate l.length (.bl true) := fun l => by
        induction l with
        | nil => rfl
        | cons x xs ih => rw [List.filterMap_cons_some (show ((fun _ => some (D.bl true)) ∘ natD) x = some (.bl true) from rfl), ih]; rfl
      rw [this, List.length_range]
    have hn : (List.replicate l.length (D.bl true)).length ≤ sizeMax := by
      rw [List.length_replicate]
      have : sizeMax = 16777216 := rfl
      omega
    rw [evE_comp, s]
    simp only [ok_bind, restC, c, Out.noexc, List.nil_append, hn, if_true]
  have og : ∀ st b, opg st (some (.bl b)) = .ok (.bl b) st := fun st b => rfl
  have og2 : ∀ st m, opg st (some (.int m)) = .ok (.int m) st := fun st m => rfl
  have rl : ∀ st m, resolve st (.lst m) = .lst m := fun st m => rfl
  have al : evE (callF k00.T (k + 1)) (.prim .all (.cons (.comp same45 [2] (.var 2) (.prim .range1 (.cons (.prim .len (.cons (.var 1) .nil)) .nil)) (.cst (.bl true))) .nil)) [some (.tup (l.map natD)), some (.tup (l.map natD)), none] st = .ok (.bl true) st := by
    show (((evE (callF k00.T (k + 1)) (.comp same45 [2] (.var 2) (.prim .range1 (.cons (.prim .len (.cons (.var 1) .nil)) .nil)) (.cst (.bl true))) [some (.tup (l.map natD)), some (.tup (l.map natD)), none] st).bind fun x st => (evL (callF k00.T (k + 1)) .nil [some (.tup (l.map natD)), some (.tup (l.map natD)), none] st).bind fun l st => .ok (x :: l) st).bind fun l st => opg st (primD .all (l.map (resolve st)))) = _
    rw [comp]
    simp only [ok_bind, evL, List.map_cons, List.map_nil, rl, all_rep, og]
  have c1 : ∀ st, evE (callF k00.T (k + 1)) (.or (.prim .istuple (.cons (.var 0) .nil)) (.prim .istuple (.cons (.var 1) .nil))) [some (.tup (l.map natD)), some (.tup (l.map natD)), none] st = .ok (.bl true) st := fun st => by
    simp only [evE, evL, List.getElem?_cons_zero, ok_bind, List.map_cons, List.map_nil, rt, it, og, rb, truth]
  have c2 : ∀ st, evE (callF k00.T (k + 1)) (.or (.not (.prim .istuple (.cons (.var 0) .nil))) (.or (.not (.prim .istuple (.cons (.var 1) .nil))) (.cmp .ne (.prim .len (.cons (.var 0) .nil)) (.prim .len (.cons (.var 1) .nil))))) [some (.tup (l.map natD)), some (.tup (l.map natD)), none] st = .ok (.bl false) st := fun st => by
    simp only [evE, evL, List.getElem?_cons_zero, List.getElem?_cons_succ, ok_bind, List.map_cons, List.map_nil, rt, it, og, og2, rb, ri, truth, ln, ne, Option.map_some, opt_some, Bool.not_true]
  obtain ⟨rest, b45⟩ := body45
  rw [callF]
  simp only [T45, runFn, f1, f2, f3, b45, List.length_cons, List.length_nil, Nat.reduceAdd, if_true, st0]
  rw [evS, evS, c1]
  simp only [ok_bind, rb, truth]
  rw [evS, evS, c2]
  simp only [ok_bind, rb, truth]
  rw [evS]
  simp only [ok_bind]
  rw [evS, evS, al]
  try rfl
theorem above_is {n : Nat} (h : Sz n) (k a : Nat) (st : Store) (ha : a < 2 ^ n) : callF k00.T (k + 5) 23 [.int (.ofNat n), .int (.ofNat a)] st = .ok (.tup ((overN n a).map natD)) st := by
  have T : k00.T[23]? = some k00.f23 := rfl
  have c1 : ∀ st, callF k00.T (k + 4) 14 [.int (.ofNat n)] st = .ok .none st := fun st => chk14 h (k + 1) st
  have c2 : ∀ t st, callF k00.T (k + 4) 15 [.int (.ofNat n), .int (.ofNat a), t] st = .ok .none st := fun t st => chk15 h k a t st ha
  have c3 : ∀ st, callF k00.T (k + 4) 11 [.int (.ofNat n), .int (.ofNat a)] st = .ok (.tup ((overN n a).map natD)) st := fun st => over_is h (k + 2) a st
  have st0 : start 2 [.int (.ofNat n), .int (.ofNat a)] = [some (.int (.ofNat n)), some (.int (.ofNat a))] := rfl
  rw [callF]
  simp only [T, runFn, k00.f23, List.length_cons, List.length_nil, Nat.reduceAdd, if_true, evS, st0, evE, evL, List.getElem?_cons_zero, List.getElem?_cons_succ, ok_bind, callE, c1, c2, c3]
theorem below_is {n : Nat} (h : Sz n) (k a : Nat) (st : Store) (ha : a < 2 ^ n) : callF k00.T (k + 5) 24 [.int (.ofNat n), .int (.ofNat a)] st = .ok (.tup ((underN n a).map natD)) st := by
  have T : k00.T[24]? = some k00.f24 := rfl
  have c1 : ∀ st, callF k00.T (k + 4) 14 [.int (.ofNat n)] st = .ok .none st := fun st => chk14 h (k + 1) st
  have c2 : ∀ t st, callF k00.T (k + 4) 15 [.int (.ofNat n), .int (.ofNat a), t] st = .ok .none st := fun t st => chk15 h k a t st ha
  have c3 : ∀ st, callF k00.T (k + 4) 12 [.int (.ofNat n), .int (.ofNat a)] st = .ok (.tup ((underN n a).map natD)) st := fun st => under_is h (k + 2) a st
  have st0 : start 2 [.int (.ofNat n), .int (.ofNat a)] = [some (.int (.ofNat n)), some (.int (.ofNat a))] := rfl
  rw [callF]
  simp only [T, runFn, k00.f24, List.length_cons, List.length_nil, Nat.reduceAdd, if_true, evS, st0, evE, evL, List.getElem?_cons_zero, List.getElem?_cons_succ, ok_bind, callE, c1, c2, c3]
end K0
end Py
end
section
set_option Elab.async false
set_option linter.all false
set_option maxRecDepth 100000
set_option maxHeartbeats 1000000
namespace Py
namespace K0
theorem iteNot {cf : CallF} {c : Ex} {env : Env} {st : Store} (h : evE cf c env st = .ok (.bl true) st) : evS cf (.ite (.not c) (.seq (.ret (.cst (.bl false))) .nil) .nil) env st = .ok (.nx env) st := by
  have e : evE cf (.not c) env st = .ok (.bl false) st := by
    rw [evE, h]
    try rfl
  rw [evS, e]
  try rfl
theorem evL2 {cf : CallF} {x y : Ex} {env : Env} {st : Store} {d e : D} (h1 : evE cf x env st = .ok d st) (h2 : evE cf y env st = .ok e st) : evL cf (.cons x (.cons y .nil)) env st = .ok [d, e] st := by
  rw [evL, h1]
  simp only [ok_bind]
  rw [evL, h2]
  try rfl
theorem callSame {cf : CallF} {x y : Ex} {env : Env} {st : Store} {d e : D} (h1 : evE cf x env st = .ok d st) (h2 : evE cf y env st = .ok e st) (h : cf 45 [d, e] st = .ok (.bl true) st) : evE cf (.call 45 (.cons x (.cons y .nil))) env st = .ok (.bl true) st := by
  rw [evE, evL2 h1 h2]
  exact h
theorem filter_len {n : Nat} (h : Sz n) (p : Nat → Bool) : ((List.range (2 ^ n)).filter p).length ≤ 4096 := Nat.le_trans (List.length_filter_le _ _) (range_len h)
section
variable {n a b : Nat} (h : Sz n) (ha : a < 2 ^ n) (hb : b < 2 ^ n) (a1 a2 a3 a4 a5 a6 a7 a8 a9 a10 : Option D) (st : Store)
include h
theorem src49 : srcL (evE (callF k00.T 10) (.call 49 (.cons (.var 0) .nil)) [some (natD n), a1, a2, a3, a4, a5, a6, a7, a8, a9, a10] st) = .ok ((List.range (2 ^ n)).map natD) st := by
  have c : callF k00.T 10 49 [natD n] st = .ok (.lst (rng 0 (2 ^ n))) st := all_is h 9 st
  simp only [evE, evL, List.getElem?_cons_zero, ok_bind, callE, c, srcL, esc, srcOf, opt_some, rng0]
include ha
theorem stmt5 : evS (callF k00.T 10) (twS 5) [some (natD n), some (natD a), a2, a3, a4, a5, a6, a7, a8, a9, a10] st = .ok (.nx [some (natD n), some (natD a), a2, a3, a4, a5, a6, a7, a8, a9, a10]) st := by
  have t : twS 5 = .ite (.not (.call 45 (.cons (.call 23 (.cons (.var 0) (.cons (.var 1) .nil))) (.cons (.prim .tuple (.cons (.comp (.var 7) [7] (.var 7) (.call 49 (.cons (.var 0) .nil)) (.call 48 (.cons (.var 0) (.cons (.var 1) (.cons (.var 7) .nil))))) .nil)) .nil)))) (.seq (.ret (.cst (.bl false))) .nil) .nil := by kernel_rfl
  rw [t]
  refine iteNot (callSame (d := .tup ((overN n a).map natD)) (e := .tup ((overN n a).map natD)) ?_ ?_ (same_tup 8 _ (filter_len h _) st))
  · have c : callF k00.T 10 23 [natD n, natD a] st = .ok (.tup ((overN n a).map natD)) st := above_is h 5 a st ha
    simp only [evE, evL, List.getElem?_cons_zero, List.getElem?_cons_succ, ok_bind, callE, c]
  · refine tupf (l := List.range (2 ^ n)) (p := fun s => landB a s) (src49 h _ _ _ _ _ _ _ _ _ _ st) (by simp) (fun s hs st => ?_) (range_len h)
    have c : callF k00.T 10 48 [natD n, natD a, natD s] st = .ok (.bl (landB a s)) st := grow_is h 8 a s st ha (List.mem_range.mp hs)
    simp only [evE, evL, List.set_cons_succ, List.set_cons_zero, List.getElem?_cons_zero, List.getElem?_cons_succ, ok_bind, callE, c]
theorem stmt6 : evS (callF k00.T 10) (twS 6) [some (natD n), some (natD a), a2, a3, a4, a5, a6, a7, a8, a9, a10] st = .ok (.nx [some (natD n), some (natD a), a2, a3, a4, a5, a6, a7, a8, a9, a10]) st := by
  have t : twS 6 = .ite (.not (.call 45 (.cons (.call 24 (.cons (.var 0) (.cons (.var 1) .nil))) (.cons (.prim .tuple (.cons (.comp (.var 7) [7] (.var 7) (.call 49 (.cons (.var 0) .nil)) (.call 48 (.cons (.var 0) (.cons (.var 7) (.cons (.var 1) .nil))))) .nil)) .nil)))) (.seq (.ret (.cst (.bl false))) .nil) .nil := by kernel_rfl
  rw [t]
  refine iteNot (callSame (d := .tup ((underN n a).map natD)) (e := .tup ((underN n a).map natD)) ?_ ?_ (same_tup 8 _ (filter_len h _) st))
  · have c : callF k00.T 10 24 [natD n, natD a] st = .ok (.tup ((underN n a).map natD)) st := below_is h 5 a st ha
    simp only [evE, evL, List.getElem?_cons_zero, List.getElem?_cons_succ, ok_bind, callE, c]
  · refine tupf (l := List.range (2 ^ n)) (p := fun s => landB s a) (src49 h _ _ _ _ _ _ _ _ _ _ st) (by simp) (fun s hs st => ?_) (range_len h)
    have c : callF k00.T 10 48 [natD n, natD s, natD a] st = .ok (.bl (landB s a)) st := grow_is h 8 s a st (List.mem_range.mp hs) ha
    simp only [evE, evL, List.set_cons_succ, List.set_cons_zero, List.getElem?_cons_zero, List.getElem?_cons_succ, ok_bind, callE, c]
include hb
theorem between_is (k : Nat) : callF k00.T (k + 6) 25 [natD n, natD a, natD b] st = .ok (.tup (((overN n a).filter fun s => landB s b).map natD)) st := by
  have T : k00.T[25]? = some k00.f25 := rfl
  have c1 : ∀ st, callF k00.T (k + 5) 16 [natD n, natD a, natD b] st = .ok .none st := fun st => chk16 h k a b st ha hb
  have c3 : callF k00.T (k + 5) 11 [natD n, natD a] st = .ok (.tup ((overN n a).map natD)) st := over_is h (k + 3) a st
  have st0 : start 4 [natD n, natD a, natD b] = [some (natD n), some (natD a), some (natD b), none] := rfl
  have s : srcL (evE (callF k00.T (k + 5)) (.call 11 (.cons (.var 0) (.cons (.var 1) .nil))) [some (natD n), some (natD a), some (natD b), none] st) = .ok ((overN n a).map natD) st := by
    simp only [evE, evL, List.getElem?_cons_zero, List.getElem?_cons_succ, ok_bind, callE, c3, srcL, esc, srcOf, opt_some]
  have e := tupf (cf := callF k00.T (k + 5)) (i := 3) (c := .call 10 (.cons (.var 3) (.cons (.var 2) .nil))) (env := [some (natD n), some (natD a), some (natD b), none]) (p := fun s => landB s b) s (by simp) (fun s _ st => by
    have c : callF k00.T (k + 5) 10 [natD s, natD b] st = .ok (.bl (landB s b)) st := grows_to (k + 4) s b st
    simp only [evE, evL, List.set_cons_succ, List.set_cons_zero, List.getElem?_cons_zero, List.getElem?_cons_succ, ok_bind, callE, c]) (filter_len h _)
  have e1 : evE (callF k00.T (k + 5)) (.call 16 (.cons (.var 0) (.cons (.var 1) (.cons (.var 2) .nil)))) [some (natD n), some (natD a), some (natD b), none] st = .ok .none st := by
    simp only [evE, evL, List.getElem?_cons_zero, List.getElem?_cons_succ, ok_bind, callE, c1]
  rw [callF]
  simp only [T, runFn, k00.f25, List.length_cons, List.length_nil, Nat.reduceAdd, if_true, st0]
  rw [evS, evS, e1]
  simp only [ok_bind]
  rw [evS, evS, e]
  try rfl
theorem stmt7 : evS (callF k00.T 10) (twS 7) [some (natD n), some (natD a), some (natD b), a3, a4, a5, a6, a7, a8, a9, a10] st = .ok (.nx [some (natD n), some (natD a), some (natD b), a3, a4, a5, a6, a7, a8, a9, a10]) st := by
  have t : twS 7 = .ite (.not (.call 45 (.cons (.call 25 (.cons (.var 0) (.cons (.var 1) (.cons (.var 2) .nil)))) (.cons (.prim .tuple (.cons (.comp (.var 7) [7] (.var 7) (.call 49 (.cons (.var 0) .nil)) (.and (.call 48 (.cons (.var 0) (.cons (.var 1) (.cons (.var 7) .nil)))) (.call 48 (.cons (.var 0) (.cons (.var 7) (.cons (.var 2) .nil)))))) .nil)) .nil)))) (.seq (.ret (.cst (.bl false))) .nil) .nil := by kernel_rfl
  rw [t]
  have ff : (overN n a).filter (fun s => landB s b) = (List.range (2 ^ n)).filter fun s => landB a s && landB s b := by
    unfold overN
    rw [List.filter_filter]
    exact List.filter_congr fun s _ => Bool.and_comm _ _
  have len : ((overN n a).filter fun s => landB s b).length ≤ 4096 := Nat.le_trans (List.length_filter_le _ _) (filter_len h _)
  refine iteNot (callSame (d := .tup (((overN n a).filter fun s => landB s b).map natD)) (e := .tup (((overN n a).filter fun s => landB s b).map natD)) ?_ ?_ (same_tup 8 _ len st))
  · have c : callF k00.T 10 25 [natD n, natD a, natD b] st = .ok (.tup (((overN n a).filter fun s => landB s b).map natD)) st := between_is h ha hb st 4
    simp only [evE, evL, List.getElem?_cons_zero, List.getElem?_cons_succ, ok_bind, callE, c]
  · rw [ff]
    refine tupf (l := List.range (2 ^ n)) (p := fun s => landB a s && landB s b) (src49 h _ _ _ _ _ _ _ _ _ _ st) (by simp) (fun s hs st => ?_) (range_len h)
    have c1 : ∀ st, callF k00.T 10 48 [natD n, natD a, natD s] st = .ok (.bl (landB a s)) st := fun st => grow_is h 8 a s st ha (List.mem_range.mp hs)
    have c2 : ∀ st, callF k00.T 10 48 [natD n, natD s, natD b] st = .ok (.bl (landB s b)) st := fun st => grow_is h 8 s b st (List.mem_range.mp hs) hb
    have rb : ∀ st b, resolve st (.bl b) = .bl b := fun st b => rfl
    simp only [evE, evL, List.set_cons_succ, List.set_cons_zero, List.getElem?_cons_zero, List.getElem?_cons_succ, ok_bind, callE, c1, c2, rb]
    cases landB a s <;> rfl
end
end K0
end Py
end
section
set_option Elab.async false
set_option linter.all false
set_option maxRecDepth 100000
set_option maxHeartbeats 1000000
namespace Py
namespace K0
def cellN (n a : Nat) : List Nat := (List.range n).filter fun k => Nat.beq (a / 2 ^ k % 2) 1
theorem cells_nat (n a : Nat) : cellsM n a = (cellN n a).map natD := by
  unfold cellsM cellN
  rw [rng0]
  generalize List.range n = l
  induction l with
  | nil => rfl
  | cons k r ih =>
    rw [List.map_cons, List.filter_cons]
    cases e : Nat.beq (a / 2 ^ k % 2) 1 with
    | true =>
      rw [List.filterMap_cons_some (show gC a (natD k) = some (natD k) from by show (if Nat.beq (a / 2 ^ k % 2) 1 = true then _ else _) = _; rw [e]; rfl), ih]
      try rfl
    | false =>
      rw [List.filterMap_cons_none (show gC a (natD k) = none from by show (if Nat.beq (a / 2 ^ k % 2) 1 = true then _ else _) = _; rw [e]; rfl), ih]
      try rfl
def sortN (l : List Nat) : List Nat := (sortI (dedupI (l.map Int.ofNat))).map Int.toNat
theorem ints_nat : ∀ l : List Nat, intsD (l.map natD) = some (l.map Int.ofNat)
  | [] => rfl
  | k :: r => by
    show (intsD (r.map natD)).map (Int.ofNat k :: ·) = _
    rw [ints_nat r]
    try rfl
theorem sset_nat {l : List Nat} (h : l.length < 64) : primD .sortedSet [.lst (l.map natD)] = some (.lst ((sortN l).map natD)) := by
  show pSortedSet (.lst (l.map natD)) = _
  unfold pSortedSet
  simp only [intsL, ints_nat, List.length_map]
  have hb : Nat.blt l.length 64 = true := Nat.ble_eq_true_of_le h
  rw [hb]
  simp only
  congr 2
  unfold sortN
  rw [List.map_map]
  refine List.map_congr_left fun i hi => ?_
  have hm : i ∈ l.map Int.ofNat := (dedupI_mem _ i).mp ((sortI_perm _).mem_iff.mp hi)
  obtain ⟨m, _, rfl⟩ := List.mem_map.mp hm
  try rfl
theorem sortN_mem {l : List Nat} {m : Nat} (h : m ∈ sortN l) : m ∈ l := by
  unfold sortN at h
  obtain ⟨i, hi, rfl⟩ := List.mem_map.mp h
  have hm : i ∈ l.map Int.ofNat := (dedupI_mem _ i).mp ((sortI_perm _).mem_iff.mp hi)
  obtain ⟨m, h2, rfl⟩ := List.mem_map.mp hm
  exact h2
theorem cellN_lt {n a m : Nat} (h : Sz n) (hm : m ∈ cellN n a) : m < 12 := by
  have := List.mem_range.mp (List.mem_filter.mp hm).1
  unfold Sz at h
  omega
theorem cellN_len {n a : Nat} (h : Sz n) : (cellN n a).length ≤ 6 := by
  have := List.length_filter_le (fun k => Nat.beq (a / 2 ^ k % 2) 1) (List.range n)
  rw [List.length_range] at this
  unfold cellN
  unfold Sz at h
  omega
def inB (n b k : Nat) : Bool := (cellsM n b).any fun y => eqB eqDeep y (natD k)
/-- sums of powers are the states -/
theorem nums_all : ([2, 3, 4, 5, 6].all fun n => (List.range (2 ^ n)).all fun a => (List.range (2 ^ n)).all fun b =>
    Nat.beq (sumP (sortN (cellN n a ++ cellN n b))) (Nat.lor a b) && (Nat.beq (sumP ((cellN n a).filter (inB n b))) (Nat.land a b) && Nat.beq (sumP ((cellN n a).filter fun k => !inB n b k)) (Nat.land a (Nat.xor a b)))) = true := by decide +kernel
theorem nums {n a b : Nat} (h : Sz n) (ha : a < 2 ^ n) (hb : b < 2 ^ n) : sumP (sortN (cellN n a ++ cellN n b)) = Nat.lor a b ∧ sumP ((cellN n a).filter (inB n b)) = Nat.land a b ∧ sumP ((cellN n a).filter fun k => !inB n b k) = Nat.land a (Nat.xor a b) := by
  have hn : n ∈ [2, 3, 4, 5, 6] := by rcases h.cases with rfl | rfl | rfl | rfl | rfl <;> simp
  have := List.all_eq_true.mp (List.all_eq_true.mp (List.all_eq_true.mp nums_all n hn) a (List.mem_range.mpr ha)) b (List.mem_range.mpr hb)
  simp only [Bool.and_eq_true] at this
  exact ⟨Nat.eq_of_beq_eq_true this.1, Nat.eq_of_beq_eq_true this.2.1, Nat.eq_of_beq_eq_true this.2.2⟩
theorem both26 {n a b : Nat} (h : Sz n) (ha : a < 2 ^ n) (hb : b < 2 ^ n) (k : Nat) (st : Store) : callF k00.T (k + 6) 26 [natD n, natD a, natD b] st = .ok (natD (Nat.lor a b)) st := by
  have T : k00.T[26]? = some k00.f26 := rfl
  have c1 : ∀ st, callF k00.T (k + 5) 16 [natD n, natD a, natD b] st = .ok .none st := fun st => chk16 h k a b st ha hb
  have st0 : start 3 [natD n, natD a, natD b] = [some (natD n), some (natD a), some (natD b)] := rfl
  have bo : opg st (binD .bor (natD a) (natD b)) = .ok (natD (Nat.lor a b)) st := rfl
  have rn : ∀ st m, resolve st (natD m) = natD m := fun st m => rfl
  rw [callF]
  simp only [T, runFn, k00.f26, List.length_cons, List.length_nil, Nat.reduceAdd, if_true, evS, st0, evE, evL, List.getElem?_cons_zero, List.getElem?_cons_succ, ok_bind, callE, c1, rn, bo]
theorem shared27 {n a b : Nat} (h : Sz n) (ha : a < 2 ^ n) (hb : b < 2 ^ n) (k : Nat) (st : Store) : callF k00.T (k + 6) 27 [natD n, natD a, natD b] st = .ok (natD (Nat.land a b)) st := by
  have T : k00.T[27]? = some k00.f27 := rfl
  have c1 : ∀ st, callF k00.T (k + 5) 16 [natD n, natD a, natD b] st = .ok .none st := fun st => chk16 h k a b st ha hb
  have st0 : start 3 [natD n, natD a, natD b] = [some (natD n), some (natD a), some (natD b)] := rfl
  have bo : opg st (binD .band (natD a) (natD b)) = .ok (natD (Nat.land a b)) st := rfl
  have rn : ∀ st m, resolve st (natD m) = natD m := fun st m => rfl
  rw [callF]
  simp only [T, runFn, k00.f27, List.length_cons, List.length_nil, Nat.reduceAdd, if_true, evS, st0, evE, evL, List.getElem?_cons_zero, List.getElem?_cons_succ, ok_bind, callE, c1, rn, bo]
theorem alone28 {n a b : Nat} (h : Sz n) (ha : a < 2 ^ n) (hb : b < 2 ^ n) (k : Nat) (st : Store) : callF k00.T (k + 6) 28 [natD n, natD a, natD b] st = .ok (natD (Nat.land a (Nat.xor a b))) st := by
  have T : k00.T[28]? = some k00.f28 := rfl
  have c1 : ∀ st, callF k00.T (k + 5) 16 [natD n, natD a, natD b] st = .ok .none st := fun st => chk16 h k a b st ha hb
  have st0 : start 3 [natD n, natD a, natD b] = [some (natD n), some (natD a), some (natD b)] := rfl
  have bx : opg st (binD .bxor (natD a) (natD b)) = .ok (natD (Nat.xor a b)) st := rfl
  have bo : opg st (binD .band (natD a) (natD (Nat.xor a b))) = .ok (natD (Nat.land a (Nat.xor a b))) st := rfl
  have rn : ∀ st m, resolve st (natD m) = natD m := fun st m => rfl
  rw [callF]
  simp only [T, runFn, k00.f28, List.length_cons, List.length_nil, Nat.reduceAdd, if_true, evS, st0, evE, evL, List.getElem?_cons_zero, List.getElem?_cons_succ, ok_bind, callE, c1, rn, bx, bo]
end K0
end Py
end
section
set_option Elab.async false
set_option linter.all false
set_option maxRecDepth 100000
set_option maxHeartbeats 0
namespace Py
namespace K0
/-! ### defs of one state, tried -/
def one19 (n : Nat) : Prop := (List.range (2 ^ n)).map (fun a => callF k00.T 7 19 [natD n, natD a] []) = (List.range (2 ^ n)).map (fun a => .ok (.tup (cellsM n a)) [])
def one20 (n : Nat) : Prop := (List.range (2 ^ n)).map (fun a => callF k00.T 7 20 [natD n, natD a] []) = (List.range (2 ^ n)).map (fun a => .ok (natD (cellsM n a).length) [])
def one21 (n : Nat) : Prop := (List.range (2 ^ n)).map (fun a => callF k00.T 7 21 [natD n, .lst (cellsM n a)] []) = (List.range (2 ^ n)).map (fun a => .ok (natD a) [])
theorem o19_2 : one19 2 := by unfold one19; kernel_rfl
theorem o19_3 : one19 3 := by unfold one19; kernel_rfl
theorem o19_4 : one19 4 := by unfold one19; kernel_rfl
theorem o19_5 : one19 5 := by unfold one19; kernel_rfl
theorem o19_6 : one19 6 := by unfold one19; kernel_rfl
theorem o20_2 : one20 2 := by unfold one20; kernel_rfl
theorem o20_3 : one20 3 := by unfold one20; kernel_rfl
theorem o20_4 : one20 4 := by unfold one20; kernel_rfl
theorem o20_5 : one20 5 := by unfold one20; kernel_rfl
theorem o20_6 : one20 6 := by unfold one20; kernel_rfl
theorem o21_2 : one21 2 := by unfold one21; kernel_rfl
theorem o21_3 : one21 3 := by unfold one21; kernel_rfl
theorem o21_4 : one21 4 := by unfold one21; kernel_rfl
theorem o21_5 : one21 5 := by unfold one21; kernel_rfl
theorem o21_6 : one21 6 := by unfold one21; kernel_rfl
theorem sz_all {P : Nat → Prop} {n : Nat} (h : Sz n) (h2 : P 2) (h3 : P 3) (h4 : P 4) (h5 : P 5) (h6 : P 6) : P n := by
  rcases h.cases with rfl | rfl | rfl | rfl | rfl <;> assumption
section
variable {n a b : Nat} (h : Sz n) (ha : a < 2 ^ n) (hb : b < 2 ^ n) (k : Nat) (st : Store)
include h ha
theorem inked19 : callF k00.T (k + 7) 19 [natD n, natD a] st = .ok (.tup (cellsM n a)) st := by
  have e := map_both (sz_all (P := one19) h o19_2 o19_3 o19_4 o19_5 o19_6) (List.mem_range.mpr ha)
  have := frame frOk (k' := k + 7) e (by rfl) rfl (Nat.le_add_left _ _) st
  rwa [List.append_nil] at this
theorem ink20 : callF k00.T (k + 7) 20 [natD n, natD a] st = .ok (natD (cellsM n a).length) st := by
  have e := map_both (sz_all (P := one20) h o20_2 o20_3 o20_4 o20_5 o20_6) (List.mem_range.mpr ha)
  have := frame frOk (k' := k + 7) e (by rfl) rfl (Nat.le_add_left _ _) st
  rwa [List.append_nil] at this
theorem state21 : callF k00.T (k + 7) 21 [natD n, .lst (cellsM n a)] st = .ok (natD a) st := by
  have e := map_both (sz_all (P := one21) h o21_2 o21_3 o21_4 o21_5 o21_6) (List.mem_range.mpr ha)
  have := frame frOk (k' := k + 7) e (by rfl) rfl (Nat.le_add_left _ _) st
  rwa [List.append_nil] at this
include hb
theorem grows22 : callF k00.T (k + 6) 22 [natD n, natD a, natD b] st = .ok (.bl (landB a b)) st := by
  have T : k00.T[22]? = some k00.f22 := rfl
  have c1 : ∀ st, callF k00.T (k + 5) 16 [natD n, natD a, natD b] st = .ok .none st := fun st => chk16 h k a b st ha hb
  have c2 : callF k00.T (k + 5) 10 [natD a, natD b] st = .ok (.bl (landB a b)) st := grows_to (k + 4) a b st
  have st0 : start 3 [natD n, natD a, natD b] = [some (natD n), some (natD a), some (natD b)] := rfl
  rw [callF]
  simp only [T, runFn, k00.f22, List.length_cons, List.length_nil, Nat.reduceAdd, if_true, evS, st0, evE, evL, List.getElem?_cons_zero, List.getElem?_cons_succ, ok_bind, callE, c1, c2]
end
end K0
end Py
end
section
set_option Elab.async false
set_option linter.all false
set_option maxRecDepth 100000
set_option maxHeartbeats 1000000
namespace Py
namespace K0
section
variable {cf : CallF} {x y c : Ex} {env : Env} {st : Store}
theorem notF (h : evE cf c env st = .ok (.bl true) st) : evE cf (.not c) env st = .ok (.bl false) st := by
  rw [evE, h]; rfl
theorem orF (h1 : evE cf x env st = .ok (.bl false) st) (h2 : evE cf y env st = .ok (.bl false) st) : evE cf (.or x y) env st = .ok (.bl false) st := by
  rw [evE, h1]
  exact h2
theorem iteF {A : Sm} (h : evE cf c env st = .ok (.bl false) st) : evS cf (.ite c A .nil) env st = .ok (.nx env) st := by
  rw [evS, h]
  try rfl
end
section
variable {n a b : Nat} (h : Sz n) (ha : a < 2 ^ n) (hb : b < 2 ^ n) (a3 a4 a5 a6 a7 a8 a9 a10 : Option D) (st : Store)
include h
theorem cells46 (k a : Nat) (st : Store) : callF k00.T (k + 1) 46 [natD n, natD a] st = .ok (.lst (cellsM n a)) st := cells_k00 (by unfold Sz at h; omega)
theorem stmt0 : evS (callF k00.T 10) (twS 0) [some (natD n), some (natD a), some (natD b), a3, a4, a5, a6, a7, a8, a9, a10] st = .ok (.nx [some (natD n), some (natD a), some (natD b), some (.lst (cellsM n a)), some (.lst (cellsM n b)), a5, a6, a7, a8, a9, a10]) st := by
  have t : twS 0 = .set (.tup (.cons (.var 3) (.cons (.var 4) .nil))) (.tup (.cons (.call 46 (.cons (.var 0) (.cons (.var 1) .nil))) (.cons (.call 46 (.cons (.var 0) (.cons (.var 2) .nil))) .nil))) := by kernel_rfl
  have c1 : ∀ st, callF k00.T 10 46 [natD n, natD a] st = .ok (.lst (cellsM n a)) st := fun st => cells46 h 9 a st
  have c2 : ∀ st, callF k00.T 10 46 [natD n, natD b] st = .ok (.lst (cellsM n b)) st := fun st => cells46 h 9 b st
  have le : (2 : Nat) ≤ sizeMax := by decide
  have e : evE (callF k00.T 10) (.tup (.cons (.call 46 (.cons (.var 0) (.cons (.var 1) .nil))) (.cons (.call 46 (.cons (.var 0) (.cons (.var 2) .nil))) .nil))) [some (natD n), some (natD a), some (natD b), a3, a4, a5, a6, a7, a8, a9, a10] st = .ok (.tup [.lst (cellsM n a), .lst (cellsM n b)]) st := by
    simp only [evE, evL, List.getElem?_cons_zero, List.getElem?_cons_succ, ok_bind, callE, c1, c2, escL, esc, List.length_cons, List.length_nil, Nat.zero_add, Nat.reduceAdd, le, if_true]
  rw [t, evS, e]
  try rfl
include ha hb
theorem stmt1 : evS (callF k00.T 10) (twS 1) [some (natD n), some (natD a), some (natD b), a3, a4, a5, a6, a7, a8, a9, a10] st = .ok (.nx [some (natD n), some (natD a), some (natD b), a3, a4, some (.bl (landB a b)), a6, a7, a8, a9, a10]) st := by
  have t : twS 1 = .set (.var 5) (.call 48 (.cons (.var 0) (.cons (.var 1) (.cons (.var 2) .nil)))) := by kernel_rfl
  have c : callF k00.T 10 48 [natD n, natD a, natD b] st = .ok (.bl (landB a b)) st := grow_is h 8 a b st ha hb
  rw [t]
  simp only [evS, evE, evL, List.getElem?_cons_zero, List.getElem?_cons_succ, ok_bind, callE, c, List.set_cons_succ, List.set_cons_zero]
theorem stmt2 : evS (callF k00.T 10) (twS 2) [some (natD n), some (natD a), some (natD b), some (.lst (cellsM n a)), a4, some (.bl (landB a b)), a6, a7, a8, a9, a10] st = .ok (.nx [some (natD n), some (natD a), some (natD b), some (.lst (cellsM n a)), a4, some (.bl (landB a b)), a6, a7, a8, a9, a10]) st := by
  have t : twS 2 = .ite (.or (.not (.call 45 (.cons (.call 22 (.cons (.var 0) (.cons (.var 1) (.cons (.var 2) .nil)))) (.cons (.var 5) .nil)))) (.or (.not (.call 45 (.cons (.call 19 (.cons (.var 0) (.cons (.var 1) .nil))) (.cons (.prim .tuple (.cons (.var 3) .nil)) .nil)))) (.not (.call 45 (.cons (.call 20 (.cons (.var 0) (.cons (.var 1) .nil))) (.cons (.prim .len (.cons (.var 3) .nil)) .nil)))))) (.seq (.ret (.cst (.bl false))) .nil) .nil := by kernel_rfl
  have c22 : callF k00.T 10 22 [natD n, natD a, natD b] st = .ok (.bl (landB a b)) st := grows22 h ha hb 4 st
  have c19 : callF k00.T 10 19 [natD n, natD a] st = .ok (.tup (cellsM n a)) st := inked19 h ha 3 st
  have c20 : callF k00.T 10 20 [natD n, natD a] st = .ok (natD (cellsM n a).length) st := ink20 h ha 3 st
  have rl : ∀ st l, resolve st (.lst l) = .lst l := fun st l => rfl
  have pt : opg st (primD .tuple [.lst (cellsM n a)]) = .ok (.tup (cellsM n a)) st := rfl
  have pl : opg st (primD .len [.lst (cellsM n a)]) = .ok (natD (cellsM n a).length) st := rfl
  rw [t]
  refine iteF (orF (notF (callSame (d := .bl (landB a b)) (e := .bl (landB a b)) ?_ ?_ ?_)) (orF (notF (callSame (d := .tup (cellsM n a)) (e := .tup (cellsM n a)) ?_ ?_ ?_)) (notF (callSame (d := natD (cellsM n a).length) (e := natD (cellsM n a).length) ?_ ?_ ?_))))
  · simp only [evE, evL, List.getElem?_cons_zero, List.getElem?_cons_succ, ok_bind, callE, c22]
  · simp only [evE, List.getElem?_cons_zero, List.getElem?_cons_succ]
  · have := same_bl 9 (landB a b) (landB a b) st
    rw [this]
    cases landB a b <;> rfl
  · simp only [evE, evL, List.getElem?_cons_zero, List.getElem?_cons_succ, ok_bind, callE, c19]
  · simp only [evE, evL, List.getElem?_cons_zero, List.getElem?_cons_succ, ok_bind, List.map_cons, List.map_nil, rl, pt]
  · rw [cells_nat]
    exact same_tup 8 _ (Nat.le_trans (cellN_len h) (by decide)) st
  · simp only [evE, evL, List.getElem?_cons_zero, List.getElem?_cons_succ, ok_bind, callE, c20]
  · simp only [evE, evL, List.getElem?_cons_zero, List.getElem?_cons_succ, ok_bind, List.map_cons, List.map_nil, rl, pl]
  · have := same_int 9 (.ofNat (cellsM n a).length) (.ofNat (cellsM n a).length) st
    rw [ieq_self] at this
    exact this
theorem in_cond (m : Nat) (e1 e2 : Option D) (st : Store) : cmpD .isin (natD m) (.lst (cellsM n b)) = some (inB n b m) := by
  show anyEq _ _ = _
  unfold anyEq
  rw [okD_cells]
  try rfl
theorem stmt3 : evS (callF k00.T 10) (twS 3) [some (natD n), some (natD a), some (natD b), some (.lst (cellsM n a)), some (.lst (cellsM n b)), a5, a6, a7, a8, a9, a10] st = .ok (.nx [some (natD n), some (natD a), some (natD b), some (.lst (cellsM n a)), some (.lst (cellsM n b)), a5, a6, a7, a8, a9, a10]) st := by
  have t : twS 3 = .ite (.or (.not (.call 45 (.cons (.call 26 (.cons (.var 0) (.cons (.var 1) (.cons (.var 2) .nil)))) (.cons (.call 47 (.cons (.prim .sortedSet (.cons (.bin .add (.var 3) (.var 4)) .nil)) .nil)) .nil)))) (.not (.call 45 (.cons (.call 27 (.cons (.var 0) (.cons (.var 1) (.cons (.var 2) .nil)))) (.cons (.call 47 (.cons (.comp (.var 6) [6] (.var 6) (.var 3) (.cmp .isin (.var 6) (.var 4))) .nil)) .nil))))) (.seq (.ret (.cst (.bl false))) .nil) .nil := by kernel_rfl
  have c26 : callF k00.T 10 26 [natD n, natD a, natD b] st = .ok (natD (Nat.lor a b)) st := both26 h ha hb 4 st
  have c27 : callF k00.T 10 27 [natD n, natD a, natD b] st = .ok (natD (Nat.land a b)) st := shared27 h ha hb 4 st
  obtain ⟨n1, n2, n3⟩ := nums h ha hb
  have l1 := cellN_len (n := n) (a := a) h
  have l2 := cellN_len (n := n) (a := b) h
  have rl : ∀ st l, resolve st (.lst l) = .lst l := fun st l => rfl
  have ad : opg st (binD .add (.lst (cellsM n a)) (.lst (cellsM n b))) = .ok (.lst ((cellN n a ++ cellN n b).map natD)) st := by
    rw [cells_nat, cells_nat, List.map_append]
    have hl : ((cellN n a).map natD ++ (cellN n b).map natD).length ≤ sizeMax := by
      rw [List.length_append, List.length_map, List.length_map]
      have : sizeMax = 16777216 := rfl
      omega
    show opg st (if _ ≤ sizeMax then _ else _) = _
    rw [if_pos (by simpa using hl)]
    try rfl
  have ss : opg st (primD .sortedSet [.lst ((cellN n a ++ cellN n b).map natD)]) = .ok (.lst ((sortN (cellN n a ++ cellN n b)).map natD)) st := by
    rw [sset_nat (by rw [List.length_append]; omega)]
    try rfl
  have c47 : callF k00.T 10 47 [.lst ((sortN (cellN n a ++ cellN n b)).map natD)] st = .ok (natD (Nat.lor a b)) st := by
    rw [← n1]
    refine state_is 9 _ (fun m hm => ?_) ?_ st
    · rcases List.mem_append.mp (sortN_mem hm) with q | q <;> exact cellN_lt h q
    · unfold sortN
      rw [List.length_map, (sortI_perm _).length_eq]
      have : ∀ l : List Int, (dedupI l).length ≤ l.length := fun l => by
        induction l with
        | nil => exact Nat.le_refl _
        | cons x xs ih =>
          rw [dedupI]
          split
          · exact Nat.le_succ_of_le ih
          · exact Nat.succ_le_succ ih
      have q := this ((cellN n a ++ cellN n b).map Int.ofNat)
      rw [List.length_map, List.length_append] at q
      omega
  have lc : evE (callF k00.T 10) (.comp (.var 6) [6] (.var 6) (.var 3) (.cmp .isin (.var 6) (.var 4))) [some (natD n), some (natD a), some (natD b), some (.lst (cellsM n a)), some (.lst (cellsM n b)), a5, a6, a7, a8, a9, a10] st = .ok (.lst (((cellN n a).filter (inB n b)).map natD)) st := by
    refine lstf (l := cellN n a) (p := inB n b) ?_ (by simp) (fun s hs st => ?_) (by omega)
    · rw [cells_nat]
      try rfl
    · have rn : ∀ st m, resolve st (natD m) = natD m := fun st m => rfl
      simp only [evE, List.set_cons_succ, List.set_cons_zero, List.getElem?_cons_zero, List.getElem?_cons_succ, ok_bind, rn, rl, in_cond h ha hb s none none st, Option.map_some, opt_some]
  have c47b : callF k00.T 10 47 [.lst (((cellN n a).filter (inB n b)).map natD)] st = .ok (natD (Nat.land a b)) st := by
    rw [← n2]
    refine state_is 9 _ (fun m hm => cellN_lt h (List.mem_filter.mp hm).1) ?_ st
    have := List.length_filter_le (inB n b) (cellN n a)
    omega
  have si : ∀ m, callF k00.T 10 45 [natD m, natD m] st = .ok (.bl true) st := fun m => by
    have := same_int 9 (.ofNat m) (.ofNat m) st
    rw [ieq_self] at this
    exact this
  rw [t]
  refine iteF (orF (notF (callSame (d := natD (Nat.lor a b)) (e := natD (Nat.lor a b)) ?_ ?_ (si _))) (notF (callSame (d := natD (Nat.land a b)) (e := natD (Nat.land a b)) ?_ ?_ (si _))))
  · simp only [evE, evL, List.getElem?_cons_zero, List.getElem?_cons_succ, ok_bind, callE, c26]
  · simp only [evE, evL, List.getElem?_cons_zero, List.getElem?_cons_succ, ok_bind, List.map_cons, List.map_nil, rl, ad, ss, callE, c47]
  · simp only [evE, evL, List.getElem?_cons_zero, List.getElem?_cons_succ, ok_bind, callE, c27]
  · rw [evE, evL, lc]
    simp only [ok_bind, evL, callE, c47b]
end
end K0
end Py
end
section
set_option Elab.async false
set_option linter.all false
set_option maxRecDepth 100000
set_option maxHeartbeats 1000000
namespace Py
namespace K0
section
variable {n a b : Nat} (h : Sz n) (ha : a < 2 ^ n) (hb : b < 2 ^ n) (a3 a4 a5 a6 a7 a8 a9 a10 : Option D) (st : Store)
include h ha hb
theorem notin_cond (m : Nat) : cmpD .notin (natD m) (.lst (cellsM n b)) = some (!inB n b m) := by
  show (anyEq _ _).map not = _
  unfold anyEq
  rw [okD_cells]
  try rfl
theorem stmt4 : evS (callF k00.T 10) (twS 4) [some (natD n), some (natD a), some (natD b), some (.lst (cellsM n a)), some (.lst (cellsM n b)), a5, a6, a7, a8, a9, a10] st = .ok (.nx [some (natD n), some (natD a), some (natD b), some (.lst (cellsM n a)), some (.lst (cellsM n b)), a5, a6, a7, a8, a9, a10]) st := by
  have t : twS 4 = .ite (.or (.not (.call 45 (.cons (.call 28 (.cons (.var 0) (.cons (.var 1) (.cons (.var 2) .nil)))) (.cons (.call 47 (.cons (.comp (.var 6) [6] (.var 6) (.var 3) (.cmp .notin (.var 6) (.var 4))) .nil)) .nil)))) (.not (.call 45 (.cons (.call 21 (.cons (.var 0) (.cons (.var 3) .nil))) (.cons (.var 1) .nil))))) (.seq (.ret (.cst (.bl false))) .nil) .nil := by kernel_rfl
  have c28 : callF k00.T 10 28 [natD n, natD a, natD b] st = .ok (natD (Nat.land a (Nat.xor a b))) st := alone28 h ha hb 4 st
  have c21 : callF k00.T 10 21 [natD n, .lst (cellsM n a)] st = .ok (natD a) st := state21 h ha 3 st
  obtain ⟨n1, n2, n3⟩ := nums h ha hb
  have l1 := cellN_len (n := n) (a := a) h
  have rl : ∀ st l, resolve st (.lst l) = .lst l := fun st l => rfl
  have lc : evE (callF k00.T 10) (.comp (.var 6) [6] (.var 6) (.var 3) (.cmp .notin (.var 6) (.var 4))) [some (natD n), some (natD a), some (natD b), some (.lst (cellsM n a)), some (.lst (cellsM n b)), a5, a6, a7, a8, a9, a10] st = .ok (.lst (((cellN n a).filter fun k => !inB n b k).map natD)) st := by
    refine lstf (l := cellN n a) (p := fun k => !inB n b k) ?_ (by simp) (fun s hs st => ?_) (by omega)
    · rw [cells_nat]
      try rfl
    · have rn : ∀ st m, resolve st (natD m) = natD m := fun st m => rfl
      simp only [evE, List.set_cons_succ, List.set_cons_zero, List.getElem?_cons_zero, List.getElem?_cons_succ, ok_bind, rn, rl, notin_cond h ha hb s, Option.map_some, opt_some]
  have c47b : callF k00.T 10 47 [.lst (((cellN n a).filter fun k => !inB n b k).map natD)] st = .ok (natD (Nat.land a (Nat.xor a b))) st := by
    rw [← n3]
    refine state_is 9 _ (fun m hm => cellN_lt h (List.mem_filter.mp hm).1) ?_ st
    have := List.length_filter_le (fun k => !inB n b k) (cellN n a)
    omega
  have si : ∀ m, callF k00.T 10 45 [natD m, natD m] st = .ok (.bl true) st := fun m => by
    have := same_int 9 (.ofNat m) (.ofNat m) st
    rw [ieq_self] at this
    exact this
  rw [t]
  refine iteF (orF (notF (callSame (d := natD (Nat.land a (Nat.xor a b))) (e := natD (Nat.land a (Nat.xor a b))) ?_ ?_ (si _))) (notF (callSame (d := natD a) (e := natD a) ?_ ?_ (si _))))
  · simp only [evE, evL, List.getElem?_cons_zero, List.getElem?_cons_succ, ok_bind, callE, c28]
  · rw [evE, evL, lc]
    simp only [ok_bind, evL, callE, c47b]
  · simp only [evE, evL, List.getElem?_cons_zero, List.getElem?_cons_succ, ok_bind, callE, c21]
  · simp only [evE, List.getElem?_cons_zero, List.getElem?_cons_succ]
theorem sqT {cf : CallF} {s r : Sm} {env env' : Env} {st st' : Store} (h : evS cf s env st = .ok (.nx env') st') : evS cf (.seq s r) env st = evS cf r env' st' := by
  rw [evS, h]
  try rfl
/-- law_two runs on to its tail -/
theorem two_pre : evS (callF k00.T 10) k00.f51.body (env0 n a b) st = evS (callF k00.T 10) tail (env1 n a b) st := by
  have t : k00.f51.body = .seq (twS 0) (.seq (twS 1) (.seq (twS 2) (.seq (twS 3) (.seq (twS 4) (.seq (twS 5) (.seq (twS 6) (.seq (twS 7) tail))))))) := by kernel_rfl
  rw [t]
  exact (sqT h ha hb (stmt0 h none none none none none none none none st)).trans ((sqT h ha hb (stmt1 h ha hb _ _ _ _ _ _ _ _ st)).trans ((sqT h ha hb (stmt2 h ha hb _ _ _ _ _ _ st)).trans ((sqT h ha hb (stmt3 h ha hb _ _ _ _ _ _ st)).trans ((sqT h ha hb (stmt4 h ha hb _ _ _ _ _ _ st)).trans ((sqT h ha hb (stmt5 h ha _ _ _ _ _ _ _ _ _ st)).trans ((sqT h ha hb (stmt6 h ha _ _ _ _ _ _ _ _ _ st)).trans (sqT h ha hb (stmt7 h ha hb _ _ _ _ _ _ _ _ st))))))))
end
end K0
end Py
end
section
set_option Elab.async false
set_option linter.all false
set_option maxRecDepth 100000
set_option maxHeartbeats 0
namespace Py
namespace K0
def loopS : Sm := match k00.f54.body with | .seq _ (.seq f _) => f | s => s
def bodyL : Sm := match loopS with | .for _ _ b => b | s => s
def lawS (i : Nat) : Sm := hdS (tlK i bodyL)
theorem l8_2 (a0 a1 a2 a4 a5 a6 a7 a8 a9 a10 : Option D) (st : Store) : evS (callF k00.T 11) (lawS 8) [a0, a1, a2, some (natD 2), a4, a5, a6, a7, a8, a9, a10] st = .ok (.nx [a0, a1, a2, some (natD 2), a4, a5, a6, a7, a8, a9, a10]) st := by
  rw [← callG_eq vH 11]
  kernel_rfl
theorem l9_2 (a0 a1 a2 a4 a5 a6 a7 a8 a9 a10 : Option D) (st : Store) : evS (callF k00.T 11) (lawS 9) [a0, a1, a2, some (natD 2), a4, a5, a6, a7, a8, a9, a10] st = .ok (.nx [a0, a1, a2, some (natD 2), a4, a5, a6, a7, a8, a9, some (.str [49])]) st := by
  rw [← callG_eq vH 11]
  kernel_rfl
theorem l8_3 (a0 a1 a2 a4 a5 a6 a7 a8 a9 a10 : Option D) (st : Store) : evS (callF k00.T 11) (lawS 8) [a0, a1, a2, some (natD 3), a4, a5, a6, a7, a8, a9, a10] st = .ok (.nx [a0, a1, a2, some (natD 3), a4, a5, a6, a7, a8, a9, a10]) st := by
  rw [← callG_eq vH 11]
  kernel_rfl
theorem l9_3 (a0 a1 a2 a4 a5 a6 a7 a8 a9 a10 : Option D) (st : Store) : evS (callF k00.T 11) (lawS 9) [a0, a1, a2, some (natD 3), a4, a5, a6, a7, a8, a9, a10] st = .ok (.nx [a0, a1, a2, some (natD 3), a4, a5, a6, a7, a8, a9, some (.str [49])]) st := by
  rw [← callG_eq vH 11]
  kernel_rfl
theorem l8_4 (a0 a1 a2 a4 a5 a6 a7 a8 a9 a10 : Option D) (st : Store) : evS (callF k00.T 11) (lawS 8) [a0, a1, a2, some (natD 4), a4, a5, a6, a7, a8, a9, a10] st = .ok (.nx [a0, a1, a2, some (natD 4), a4, a5, a6, a7, a8, a9, a10]) st := by
  rw [← callG_eq vH 11]
  kernel_rfl
theorem l9_4 (a0 a1 a2 a4 a5 a6 a7 a8 a9 a10 : Option D) (st : Store) : evS (callF k00.T 11) (lawS 9) [a0, a1, a2, some (natD 4), a4, a5, a6, a7, a8, a9, a10] st = .ok (.nx [a0, a1, a2, some (natD 4), a4, a5, a6, a7, a8, a9, some (.str [49])]) st := by
  rw [← callG_eq vH 11]
  kernel_rfl
theorem l8_5 (a0 a1 a2 a4 a5 a6 a7 a8 a9 a10 : Option D) (st : Store) : evS (callF k00.T 11) (lawS 8) [a0, a1, a2, some (natD 5), a4, a5, a6, a7, a8, a9, a10] st = .ok (.nx [a0, a1, a2, some (natD 5), a4, a5, a6, a7, a8, a9, a10]) st := by
  rw [← callG_eq vH 11]
  kernel_rfl
theorem l9_5 (a0 a1 a2 a4 a5 a6 a7 a8 a9 a10 : Option D) (st : Store) : evS (callF k00.T 11) (lawS 9) [a0, a1, a2, some (natD 5), a4, a5, a6, a7, a8, a9, a10] st = .ok (.nx [a0, a1, a2, some (natD 5), a4, a5, a6, a7, a8, a9, some (.str [49])]) st := by
  rw [← callG_eq vH 11]
  kernel_rfl
theorem l8_6 (a0 a1 a2 a4 a5 a6 a7 a8 a9 a10 : Option D) (st : Store) : evS (callF k00.T 11) (lawS 8) [a0, a1, a2, some (natD 6), a4, a5, a6, a7, a8, a9, a10] st = .ok (.nx [a0, a1, a2, some (natD 6), a4, a5, a6, a7, a8, a9, a10]) st := by
  rw [← callG_eq vH 11]
  kernel_rfl
theorem l9_6 (a0 a1 a2 a4 a5 a6 a7 a8 a9 a10 : Option D) (st : Store) : evS (callF k00.T 11) (lawS 9) [a0, a1, a2, some (natD 6), a4, a5, a6, a7, a8, a9, a10] st = .ok (.nx [a0, a1, a2, some (natD 6), a4, a5, a6, a7, a8, a9, some (.str [49])]) st := by
  rw [← callG_eq vH 11]
  kernel_rfl
end K0
end Py
end
section
set_option Elab.async false
set_option linter.all false
set_option maxRecDepth 100000
set_option maxHeartbeats 0
namespace Py
namespace K0
theorem tl_2_0 : (List.range 4).all (fun b => okT (evS (callF k00.T 10) tail (env1 2 0 b) [])) = true := by
  rw [← callG_eq vH 10]
  kernel_rfl
theorem tl_2_1 : (List.range 4).all (fun b => okT (evS (callF k00.T 10) tail (env1 2 1 b) [])) = true := by
  rw [← callG_eq vH 10]
  kernel_rfl
theorem tl_2_2 : (List.range 4).all (fun b => okT (evS (callF k00.T 10) tail (env1 2 2 b) [])) = true := by
  rw [← callG_eq vH 10]
  kernel_rfl
theorem tl_2_3 : (List.range 4).all (fun b => okT (evS (callF k00.T 10) tail (env1 2 3 b) [])) = true := by
  rw [← callG_eq vH 10]
  kernel_rfl
theorem tl_3_0 : (List.range 8).all (fun b => okT (evS (callF k00.T 10) tail (env1 3 0 b) [])) = true := by
  rw [← callG_eq vH 10]
  kernel_rfl
theorem tl_3_1 : (List.range 8).all (fun b => okT (evS (callF k00.T 10) tail (env1 3 1 b) [])) = true := by
  rw [← callG_eq vH 10]
  kernel_rfl
theorem tl_3_2 : (List.range 8).all (fun b => okT (evS (callF k00.T 10) tail (env1 3 2 b) [])) = true := by
  rw [← callG_eq vH 10]
  kernel_rfl
theorem tl_3_3 : (List.range 8).all (fun b => okT (evS (callF k00.T 10) tail (env1 3 3 b) [])) = true := by
  rw [← callG_eq vH 10]
  kernel_rfl
theorem tl_3_4 : (List.range 8).all (fun b => okT (evS (callF k00.T 10) tail (env1 3 4 b) [])) = true := by
  rw [← callG_eq vH 10]
  kernel_rfl
theorem tl_3_5 : (List.range 8).all (fun b => okT (evS (callF k00.T 10) tail (env1 3 5 b) [])) = true := by
  rw [← callG_eq vH 10]
  kernel_rfl
theorem tl_3_6 : (List.range 8).all (fun b => okT (evS (callF k00.T 10) tail (env1 3 6 b) [])) = true := by
  rw [← callG_eq vH 10]
  kernel_rfl
theorem tl_3_7 : (List.range 8).all (fun b => okT (evS (callF k00.T 10) tail (env1 3 7 b) [])) = true := by
  rw [← callG_eq vH 10]
  kernel_rfl
theorem tl_4_0 : (List.range 16).all (fun b => okT (evS (callF k00.T 10) tail (env1 4 0 b) [])) = true := by
  rw [← callG_eq vH 10]
  kernel_rfl
theorem tl_4_1 : (List.range 16).all (fun b => okT (evS (callF k00.T 10) tail (env1 4 1 b) [])) = true := by
  rw [← callG_eq vH 10]
  kernel_rfl
theorem tl_4_2 : (List.range 16).all (fun b => okT (evS (callF k00.T 10) tail (env1 4 2 b) [])) = true := by
  rw [← callG_eq vH 10]
  kernel_rfl
theorem tl_4_3 : (List.range 16).all (fun b => okT (evS (callF k00.T 10) tail (env1 4 3 b) [])) = true := by
  rw [← callG_eq vH 10]
  kernel_rfl
theorem tl_4_4 : (List.range 16).all (fun b => okT (evS (callF k00.T 10) tail (env1 4 4 b) [])) = true := by
  rw [← callG_eq vH 10]
  kernel_rfl
theorem tl_4_5 : (List.range 16).all (fun b => okT (evS (callF k00.T 10) tail (env1 4 5 b) [])) = true := by
  rw [← callG_eq vH 10]
  kernel_rfl
theorem tl_4_6 : (List.range 16).all (fun b => okT (evS (callF k00.T 10) tail (env1 4 6 b) [])) = true := by
  rw [← callG_eq vH 10]
  kernel_rfl
theorem tl_4_7 : (List.range 16).all (fun b => okT (evS (callF k00.T 10) tail (env1 4 7 b) [])) = true := by
  rw [← callG_eq vH 10]
  kernel_rfl
theorem tl_4_8 : (List.range 16).all (fun b => okT (evS (callF k00.T 10) tail (env1 4 8 b) [])) = true := by
  rw [← callG_eq vH 10]
  kernel_rfl
theorem tl_4_9 : (List.range 16).all (fun b => okT (evS (callF k00.T 10) tail (env1 4 9 b) [])) = true := by
  rw [← callG_eq vH 10]
  kernel_rfl
theorem tl_4_10 : (List.range 16).all (fun b => okT (evS (callF k00.T 10) tail (env1 4 10 b) [])) = true := by
  rw [← callG_eq vH 10]
  kernel_rfl
theorem tl_4_11 : (List.range 16).all (fun b => okT (evS (callF k00.T 10) tail (env1 4 11 b) [])) = true := by
  rw [← callG_eq vH 10]
  kernel_rfl
theorem tl_4_12 : (List.range 16).all (fun b => okT (evS (callF k00.T 10) tail (env1 4 12 b) [])) = true := by
  rw [← callG_eq vH 10]
  kernel_rfl
theorem tl_4_13 : (List.range 16).all (fun b => okT (evS (callF k00.T 10) tail (env1 4 13 b) [])) = true := by
  rw [← callG_eq vH 10]
  kernel_rfl
theorem tl_4_14 : (List.range 16).all (fun b => okT (evS (callF k00.T 10) tail (env1 4 14 b) [])) = true := by
  rw [← callG_eq vH 10]
  kernel_rfl
theorem tl_4_15 : (List.range 16).all (fun b => okT (evS (callF k00.T 10) tail (env1 4 15 b) [])) = true := by
  rw [← callG_eq vH 10]
  kernel_rfl
end K0
end Py
end
section
set_option Elab.async false
set_option linter.all false
set_option maxRecDepth 100000
set_option maxHeartbeats 0
namespace Py
namespace K0
theorem tl_5_0 : (List.range 32).all (fun b => okT (evS (callF k00.T 10) tail (env1 5 0 b) [])) = true := by
  rw [← callG_eq vH 10]
  kernel_rfl
theorem tl_5_1 : (List.range 32).all (fun b => okT (evS (callF k00.T 10) tail (env1 5 1 b) [])) = true := by
  rw [← callG_eq vH 10]
  kernel_rfl
theorem tl_5_2 : (List.range 32).all (fun b => okT (evS (callF k00.T 10) tail (env1 5 2 b) [])) = true := by
  rw [← callG_eq vH 10]
  kernel_rfl
theorem tl_5_3 : (List.range 32).all (fun b => okT (evS (callF k00.T 10) tail (env1 5 3 b) [])) = true := by
  rw [← callG_eq vH 10]
  kernel_rfl
theorem tl_5_4 : (List.range 32).all (fun b => okT (evS (callF k00.T 10) tail (env1 5 4 b) [])) = true := by
  rw [← callG_eq vH 10]
  kernel_rfl
theorem tl_5_5 : (List.range 32).all (fun b => okT (evS (callF k00.T 10) tail (env1 5 5 b) [])) = true := by
  rw [← callG_eq vH 10]
  kernel_rfl
theorem tl_5_6 : (List.range 32).all (fun b => okT (evS (callF k00.T 10) tail (env1 5 6 b) [])) = true := by
  rw [← callG_eq vH 10]
  kernel_rfl
theorem tl_5_7 : (List.range 32).all (fun b => okT (evS (callF k00.T 10) tail (env1 5 7 b) [])) = true := by
  rw [← callG_eq vH 10]
  kernel_rfl
theorem tl_5_8 : (List.range 32).all (fun b => okT (evS (callF k00.T 10) tail (env1 5 8 b) [])) = true := by
  rw [← callG_eq vH 10]
  kernel_rfl
theorem tl_5_9 : (List.range 32).all (fun b => okT (evS (callF k00.T 10) tail (env1 5 9 b) [])) = true := by
  rw [← callG_eq vH 10]
  kernel_rfl
theorem tl_5_10 : (List.range 32).all (fun b => okT (evS (callF k00.T 10) tail (env1 5 10 b) [])) = true := by
  rw [← callG_eq vH 10]
  kernel_rfl
theorem tl_5_11 : (List.range 32).all (fun b => okT (evS (callF k00.T 10) tail (env1 5 11 b) [])) = true := by
  rw [← callG_eq vH 10]
  kernel_rfl
theorem tl_5_12 : (List.range 32).all (fun b => okT (evS (callF k00.T 10) tail (env1 5 12 b) [])) = true := by
  rw [← callG_eq vH 10]
  kernel_rfl
theorem tl_5_13 : (List.range 32).all (fun b => okT (evS (callF k00.T 10) tail (env1 5 13 b) [])) = true := by
  rw [← callG_eq vH 10]
  kernel_rfl
theorem tl_5_14 : (List.range 32).all (fun b => okT (evS (callF k00.T 10) tail (env1 5 14 b) [])) = true := by
  rw [← callG_eq vH 10]
  kernel_rfl
theorem tl_5_15 : (List.range 32).all (fun b => okT (evS (callF k00.T 10) tail (env1 5 15 b) [])) = true := by
  rw [← callG_eq vH 10]
  kernel_rfl
theorem tl_5_16 : (List.range 32).all (fun b => okT (evS (callF k00.T 10) tail (env1 5 16 b) [])) = true := by
  rw [← callG_eq vH 10]
  kernel_rfl
theorem tl_5_17 : (List.range 32).all (fun b => okT (evS (callF k00.T 10) tail (env1 5 17 b) [])) = true := by
  rw [← callG_eq vH 10]
  kernel_rfl
theorem tl_5_18 : (List.range 32).all (fun b => okT (evS (callF k00.T 10) tail (env1 5 18 b) [])) = true := by
  rw [← callG_eq vH 10]
  kernel_rfl
theorem tl_5_19 : (List.range 32).all (fun b => okT (evS (callF k00.T 10) tail (env1 5 19 b) [])) = true := by
  rw [← callG_eq vH 10]
  kernel_rfl
theorem tl_5_20 : (List.range 32).all (fun b => okT (evS (callF k00.T 10) tail (env1 5 20 b) [])) = true := by
  rw [← callG_eq vH 10]
  kernel_rfl
theorem tl_5_21 : (List.range 32).all (fun b => okT (evS (callF k00.T 10) tail (env1 5 21 b) [])) = true := by
  rw [← callG_eq vH 10]
  kernel_rfl
theorem tl_5_22 : (List.range 32).all (fun b => okT (evS (callF k00.T 10) tail (env1 5 22 b) [])) = true := by
  rw [← callG_eq vH 10]
  kernel_rfl
theorem tl_5_23 : (List.range 32).all (fun b => okT (evS (callF k00.T 10) tail (env1 5 23 b) [])) = true := by
  rw [← callG_eq vH 10]
  kernel_rfl
theorem tl_5_24 : (List.range 32).all (fun b => okT (evS (callF k00.T 10) tail (env1 5 24 b) [])) = true := by
  rw [← callG_eq vH 10]
  kernel_rfl
theorem tl_5_25 : (List.range 32).all (fun b => okT (evS (callF k00.T 10) tail (env1 5 25 b) [])) = true := by
  rw [← callG_eq vH 10]
  kernel_rfl
theorem tl_5_26 : (List.range 32).all (fun b => okT (evS (callF k00.T 10) tail (env1 5 26 b) [])) = true := by
  rw [← callG_eq vH 10]
  kernel_rfl
theorem tl_5_27 : (List.range 32).all (fun b => okT (evS (callF k00.T 10) tail (env1 5 27 b) [])) = true := by
  rw [← callG_eq vH 10]
  kernel_rfl
theorem tl_5_28 : (List.range 32).all (fun b => okT (evS (callF k00.T 10) tail (env1 5 28 b) [])) = true := by
  rw [← callG_eq vH 10]
  kernel_rfl
theorem tl_5_29 : (List.range 32).all (fun b => okT (evS (callF k00.T 10) tail (env1 5 29 b) [])) = true := by
  rw [← callG_eq vH 10]
  kernel_rfl
theorem tl_5_30 : (List.range 32).all (fun b => okT (evS (callF k00.T 10) tail (env1 5 30 b) [])) = true := by
  rw [← callG_eq vH 10]
  kernel_rfl
theorem tl_5_31 : (List.range 32).all (fun b => okT (evS (callF k00.T 10) tail (env1 5 31 b) [])) = true := by
  rw [← callG_eq vH 10]
  kernel_rfl
end K0
end Py
end
section
set_option Elab.async false
set_option linter.all false
set_option maxRecDepth 100000
set_option maxHeartbeats 0
namespace Py
namespace K0
theorem tl_6_0 : (List.range 64).all (fun b => okT (evS (callF k00.T 10) tail (env1 6 0 b) [])) = true := by
  rw [← callG_eq vH 10]
  kernel_rfl
theorem tl_6_1 : (List.range 64).all (fun b => okT (evS (callF k00.T 10) tail (env1 6 1 b) [])) = true := by
  rw [← callG_eq vH 10]
  kernel_rfl
theorem tl_6_2 : (List.range 64).all (fun b => okT (evS (callF k00.T 10) tail (env1 6 2 b) [])) = true := by
  rw [← callG_eq vH 10]
  kernel_rfl
theorem tl_6_3 : (List.range 64).all (fun b => okT (evS (callF k00.T 10) tail (env1 6 3 b) [])) = true := by
  rw [← callG_eq vH 10]
  kernel_rfl
theorem tl_6_4 : (List.range 64).all (fun b => okT (evS (callF k00.T 10) tail (env1 6 4 b) [])) = true := by
  rw [← callG_eq vH 10]
  kernel_rfl
theorem tl_6_5 : (List.range 64).all (fun b => okT (evS (callF k00.T 10) tail (env1 6 5 b) [])) = true := by
  rw [← callG_eq vH 10]
  kernel_rfl
theorem tl_6_6 : (List.range 64).all (fun b => okT (evS (callF k00.T 10) tail (env1 6 6 b) [])) = true := by
  rw [← callG_eq vH 10]
  kernel_rfl
theorem tl_6_7 : (List.range 64).all (fun b => okT (evS (callF k00.T 10) tail (env1 6 7 b) [])) = true := by
  rw [← callG_eq vH 10]
  kernel_rfl
end K0
end Py
end
section
set_option Elab.async false
set_option linter.all false
set_option maxRecDepth 100000
set_option maxHeartbeats 0
namespace Py
namespace K0
theorem tl_6_8 : (List.range 64).all (fun b => okT (evS (callF k00.T 10) tail (env1 6 8 b) [])) = true := by
  rw [← callG_eq vH 10]
  kernel_rfl
theorem tl_6_9 : (List.range 64).all (fun b => okT (evS (callF k00.T 10) tail (env1 6 9 b) [])) = true := by
  rw [← callG_eq vH 10]
  kernel_rfl
theorem tl_6_10 : (List.range 64).all (fun b => okT (evS (callF k00.T 10) tail (env1 6 10 b) [])) = true := by
  rw [← callG_eq vH 10]
  kernel_rfl
theorem tl_6_11 : (List.range 64).all (fun b => okT (evS (callF k00.T 10) tail (env1 6 11 b) [])) = true := by
  rw [← callG_eq vH 10]
  kernel_rfl
theorem tl_6_12 : (List.range 64).all (fun b => okT (evS (callF k00.T 10) tail (env1 6 12 b) [])) = true := by
  rw [← callG_eq vH 10]
  kernel_rfl
theorem tl_6_13 : (List.range 64).all (fun b => okT (evS (callF k00.T 10) tail (env1 6 13 b) [])) = true := by
  rw [← callG_eq vH 10]
  kernel_rfl
theorem tl_6_14 : (List.range 64).all (fun b => okT (evS (callF k00.T 10) tail (env1 6 14 b) [])) = true := by
  rw [← callG_eq vH 10]
  kernel_rfl
theorem tl_6_15 : (List.range 64).all (fun b => okT (evS (callF k00.T 10) tail (env1 6 15 b) [])) = true := by
  rw [← callG_eq vH 10]
  kernel_rfl
end K0
end Py
end
section
set_option Elab.async false
set_option linter.all false
set_option maxRecDepth 100000
set_option maxHeartbeats 0
namespace Py
namespace K0
theorem tl_6_16 : (List.range 64).all (fun b => okT (evS (callF k00.T 10) tail (env1 6 16 b) [])) = true := by
  rw [← callG_eq vH 10]
  kernel_rfl
theorem tl_6_17 : (List.range 64).all (fun b => okT (evS (callF k00.T 10) tail (env1 6 17 b) [])) = true := by
  rw [← callG_eq vH 10]
  kernel_rfl
theorem tl_6_18 : (List.range 64).all (fun b => okT (evS (callF k00.T 10) tail (env1 6 18 b) [])) = true := by
  rw [← callG_eq vH 10]
  kernel_rfl
theorem tl_6_19 : (List.range 64).all (fun b => okT (evS (callF k00.T 10) tail (env1 6 19 b) [])) = true := by
  rw [← callG_eq vH 10]
  kernel_rfl
theorem tl_6_20 : (List.range 64).all (fun b => okT (evS (callF k00.T 10) tail (env1 6 20 b) [])) = true := by
  rw [← callG_eq vH 10]
  kernel_rfl
theorem tl_6_21 : (List.range 64).all (fun b => okT (evS (callF k00.T 10) tail (env1 6 21 b) [])) = true := by
  rw [← callG_eq vH 10]
  kernel_rfl
theorem tl_6_22 : (List.range 64).all (fun b => okT (evS (callF k00.T 10) tail (env1 6 22 b) [])) = true := by
  rw [← callG_eq vH 10]
  kernel_rfl
theorem tl_6_23 : (List.range 64).all (fun b => okT (evS (callF k00.T 10) tail (env1 6 23 b) [])) = true := by
  rw [← callG_eq vH 10]
  kernel_rfl
end K0
end Py
end
section
set_option Elab.async false
set_option linter.all false
set_option maxRecDepth 100000
set_option maxHeartbeats 0
namespace Py
namespace K0
theorem tl_6_24 : (List.range 64).all (fun b => okT (evS (callF k00.T 10) tail (env1 6 24 b) [])) = true := by
  rw [← callG_eq vH 10]
  kernel_rfl
theorem tl_6_25 : (List.range 64).all (fun b => okT (evS (callF k00.T 10) tail (env1 6 25 b) [])) = true := by
  rw [← callG_eq vH 10]
  kernel_rfl
theorem tl_6_26 : (List.range 64).all (fun b => okT (evS (callF k00.T 10) tail (env1 6 26 b) [])) = true := by
  rw [← callG_eq vH 10]
  kernel_rfl
theorem tl_6_27 : (List.range 64).all (fun b => okT (evS (callF k00.T 10) tail (env1 6 27 b) [])) = true := by
  rw [← callG_eq vH 10]
  kernel_rfl
theorem tl_6_28 : (List.range 64).all (fun b => okT (evS (callF k00.T 10) tail (env1 6 28 b) [])) = true := by
  rw [← callG_eq vH 10]
  kernel_rfl
theorem tl_6_29 : (List.range 64).all (fun b => okT (evS (callF k00.T 10) tail (env1 6 29 b) [])) = true := by
  rw [← callG_eq vH 10]
  kernel_rfl
theorem tl_6_30 : (List.range 64).all (fun b => okT (evS (callF k00.T 10) tail (env1 6 30 b) [])) = true := by
  rw [← callG_eq vH 10]
  kernel_rfl
theorem tl_6_31 : (List.range 64).all (fun b => okT (evS (callF k00.T 10) tail (env1 6 31 b) [])) = true := by
  rw [← callG_eq vH 10]
  kernel_rfl
end K0
end Py
end
section
set_option Elab.async false
set_option linter.all false
set_option maxRecDepth 100000
set_option maxHeartbeats 0
namespace Py
namespace K0
theorem tl_6_32 : (List.range 64).all (fun b => okT (evS (callF k00.T 10) tail (env1 6 32 b) [])) = true := by
  rw [← callG_eq vH 10]
  kernel_rfl
theorem tl_6_33 : (List.range 64).all (fun b => okT (evS (callF k00.T 10) tail (env1 6 33 b) [])) = true := by
  rw [← callG_eq vH 10]
  kernel_rfl
theorem tl_6_34 : (List.range 64).all (fun b => okT (evS (callF k00.T 10) tail (env1 6 34 b) [])) = true := by
  rw [← callG_eq vH 10]
  kernel_rfl
theorem tl_6_35 : (List.range 64).all (fun b => okT (evS (callF k00.T 10) tail (env1 6 35 b) [])) = true := by
  rw [← callG_eq vH 10]
  kernel_rfl
theorem tl_6_36 : (List.range 64).all (fun b => okT (evS (callF k00.T 10) tail (env1 6 36 b) [])) = true := by
  rw [← callG_eq vH 10]
  kernel_rfl
theorem tl_6_37 : (List.range 64).all (fun b => okT (evS (callF k00.T 10) tail (env1 6 37 b) [])) = true := by
  rw [← callG_eq vH 10]
  kernel_rfl
theorem tl_6_38 : (List.range 64).all (fun b => okT (evS (callF k00.T 10) tail (env1 6 38 b) [])) = true := by
  rw [← callG_eq vH 10]
  kernel_rfl
theorem tl_6_39 : (List.range 64).all (fun b => okT (evS (callF k00.T 10) tail (env1 6 39 b) [])) = true := by
  rw [← callG_eq vH 10]
  kernel_rfl
end K0
end Py
end
section
set_option Elab.async false
set_option linter.all false
set_option maxRecDepth 100000
set_option maxHeartbeats 0
namespace Py
namespace K0
theorem tl_6_40 : (List.range 64).all (fun b => okT (evS (callF k00.T 10) tail (env1 6 40 b) [])) = true := by
  rw [← callG_eq vH 10]
  kernel_rfl
theorem tl_6_41 : (List.range 64).all (fun b => okT (evS (callF k00.T 10) tail (env1 6 41 b) [])) = true := by
  rw [← callG_eq vH 10]
  kernel_rfl
theorem tl_6_42 : (List.range 64).all (fun b => okT (evS (callF k00.T 10) tail (env1 6 42 b) [])) = true := by
  rw [← callG_eq vH 10]
  kernel_rfl
theorem tl_6_43 : (List.range 64).all (fun b => okT (evS (callF k00.T 10) tail (env1 6 43 b) [])) = true := by
  rw [← callG_eq vH 10]
  kernel_rfl
theorem tl_6_44 : (List.range 64).all (fun b => okT (evS (callF k00.T 10) tail (env1 6 44 b) [])) = true := by
  rw [← callG_eq vH 10]
  kernel_rfl
theorem tl_6_45 : (List.range 64).all (fun b => okT (evS (callF k00.T 10) tail (env1 6 45 b) [])) = true := by
  rw [← callG_eq vH 10]
  kernel_rfl
theorem tl_6_46 : (List.range 64).all (fun b => okT (evS (callF k00.T 10) tail (env1 6 46 b) [])) = true := by
  rw [← callG_eq vH 10]
  kernel_rfl
theorem tl_6_47 : (List.range 64).all (fun b => okT (evS (callF k00.T 10) tail (env1 6 47 b) [])) = true := by
  rw [← callG_eq vH 10]
  kernel_rfl
end K0
end Py
end
section
set_option Elab.async false
set_option linter.all false
set_option maxRecDepth 100000
set_option maxHeartbeats 0
namespace Py
namespace K0
theorem tl_6_48 : (List.range 64).all (fun b => okT (evS (callF k00.T 10) tail (env1 6 48 b) [])) = true := by
  rw [← callG_eq vH 10]
  kernel_rfl
theorem tl_6_49 : (List.range 64).all (fun b => okT (evS (callF k00.T 10) tail (env1 6 49 b) [])) = true := by
  rw [← callG_eq vH 10]
  kernel_rfl
theorem tl_6_50 : (List.range 64).all (fun b => okT (evS (callF k00.T 10) tail (env1 6 50 b) [])) = true := by
  rw [← callG_eq vH 10]
  kernel_rfl
theorem tl_6_51 : (List.range 64).all (fun b => okT (evS (callF k00.T 10) tail (env1 6 51 b) [])) = true := by
  rw [← callG_eq vH 10]
  kernel_rfl
theorem tl_6_52 : (List.range 64).all (fun b => okT (evS (callF k00.T 10) tail (env1 6 52 b) [])) = true := by
  rw [← callG_eq vH 10]
  kernel_rfl
theorem tl_6_53 : (List.range 64).all (fun b => okT (evS (callF k00.T 10) tail (env1 6 53 b) [])) = true := by
  rw [← callG_eq vH 10]
  kernel_rfl
theorem tl_6_54 : (List.range 64).all (fun b => okT (evS (callF k00.T 10) tail (env1 6 54 b) [])) = true := by
  rw [← callG_eq vH 10]
  kernel_rfl
theorem tl_6_55 : (List.range 64).all (fun b => okT (evS (callF k00.T 10) tail (env1 6 55 b) [])) = true := by
  rw [← callG_eq vH 10]
  kernel_rfl
end K0
end Py
end
section
set_option Elab.async false
set_option linter.all false
set_option maxRecDepth 100000
set_option maxHeartbeats 0
namespace Py
namespace K0
theorem tl_6_56 : (List.range 64).all (fun b => okT (evS (callF k00.T 10) tail (env1 6 56 b) [])) = true := by
  rw [← callG_eq vH 10]
  kernel_rfl
theorem tl_6_57 : (List.range 64).all (fun b => okT (evS (callF k00.T 10) tail (env1 6 57 b) [])) = true := by
  rw [← callG_eq vH 10]
  kernel_rfl
theorem tl_6_58 : (List.range 64).all (fun b => okT (evS (callF k00.T 10) tail (env1 6 58 b) [])) = true := by
  rw [← callG_eq vH 10]
  kernel_rfl
theorem tl_6_59 : (List.range 64).all (fun b => okT (evS (callF k00.T 10) tail (env1 6 59 b) [])) = true := by
  rw [← callG_eq vH 10]
  kernel_rfl
theorem tl_6_60 : (List.range 64).all (fun b => okT (evS (callF k00.T 10) tail (env1 6 60 b) [])) = true := by
  rw [← callG_eq vH 10]
  kernel_rfl
theorem tl_6_61 : (List.range 64).all (fun b => okT (evS (callF k00.T 10) tail (env1 6 61 b) [])) = true := by
  rw [← callG_eq vH 10]
  kernel_rfl
theorem tl_6_62 : (List.range 64).all (fun b => okT (evS (callF k00.T 10) tail (env1 6 62 b) [])) = true := by
  rw [← callG_eq vH 10]
  kernel_rfl
theorem tl_6_63 : (List.range 64).all (fun b => okT (evS (callF k00.T 10) tail (env1 6 63 b) [])) = true := by
  rw [← callG_eq vH 10]
  kernel_rfl
end K0
end Py
end
section
set_option Elab.async false
set_option linter.all false
set_option maxRecDepth 100000
set_option maxHeartbeats 1000000
namespace Py
namespace K0
def tlP (n a : Nat) : Prop := (List.range (2 ^ n)).all (fun b => okT (evS (callF k00.T 10) tail (env1 n a b) [])) = true
theorem tl_2 {a : Nat} (h : a < 4) : tlP 2 a := by
  match a, h with
  | 0, _ => exact tl_2_0
  | 1, _ => exact tl_2_1
  | 2, _ => exact tl_2_2
  | 3, _ => exact tl_2_3
  | m + 4, h => exact absurd h (by omega)
theorem tl_3 {a : Nat} (h : a < 8) : tlP 3 a := by
  match a, h with
  | 0, _ => exact tl_3_0
  | 1, _ => exact tl_3_1
  | 2, _ => exact tl_3_2
  | 3, _ => exact tl_3_3
  | 4, _ => exact tl_3_4
  | 5, _ => exact tl_3_5
  | 6, _ => exact tl_3_6
  | 7, _ => exact tl_3_7
  | m + 8, h => exact absurd h (by omega)
theorem tl_4 {a : Nat} (h : a < 16) : tlP 4 a := by
  match a, h with
  | 0, _ => exact tl_4_0
  | 1, _ => exact tl_4_1
  | 2, _ => exact tl_4_2
  | 3, _ => exact tl_4_3
  | 4, _ => exact tl_4_4
  | 5, _ => exact tl_4_5
  | 6, _ => exact tl_4_6
  | 7, _ => exact tl_4_7
  | 8, _ => exact tl_4_8
  | 9, _ => exact tl_4_9
  | 10, _ => exact tl_4_10
  | 11, _ => exact tl_4_11
  | 12, _ => exact tl_4_12
  | 13, _ => exact tl_4_13
  | 14, _ => exact tl_4_14
  | 15, _ => exact tl_4_15
  | m + 16, h => exact absurd h (by omega)
theorem tl_5 {a : Nat} (h : a < 32) : tlP 5 a := by
  match a, h with
  | 0, _ => exact tl_5_0
  | 1, _ => exact tl_5_1
  | 2, _ => exact tl_5_2
  | 3, _ => exact tl_5_3
  | 4, _ => exact tl_5_4
  | 5, _ => exact tl_5_5
  | 6, _ => exact tl_5_6
  | 7, _ => exact tl_5_7
  | 8, _ => exact tl_5_8
  | 9, _ => exact tl_5_9
  | 10, _ => exact tl_5_10
  | 11, _ => exact tl_5_11
  | 12, _ => exact tl_5_12
  | 13, _ => exact tl_5_13
  | 14, _ => exact tl_5_14
  | 15, _ => exact tl_5_15
  | 16, _ => exact tl_5_16
  | 17, _ => exact tl_5_17
  | 18, _ => exact tl_5_18
  | 19, _ => exact tl_5_19
  | 20, _ => exact tl_5_20
  | 21, _ => exact tl_5_21
  | 22, _ => exact tl_5_22
  | 23, _ => exact tl_5_23
  | 24, _ => exact tl_5_24
  | 25, _ => exact tl_5_25
  | 26, _ => exact tl_5_26
  | 27, _ => exact tl_5_27
  | 28, _ => exact tl_5_28
  | 29, _ => exact tl_5_29
  | 30, _ => exact tl_5_30
  | 31, _ => exact tl_5_31
  | m + 32, h => exact absurd h (by omega)
theorem tl_6 {a : Nat} (h : a < 64) : tlP 6 a := by
  match a, h with
  | 0, _ => exact tl_6_0
  | 1, _ => exact tl_6_1
  | 2, _ => exact tl_6_2
  | 3, _ => exact tl_6_3
  | 4, _ => exact tl_6_4
  | 5, _ => exact tl_6_5
  | 6, _ => exact tl_6_6
  | 7, _ => exact tl_6_7
  | 8, _ => exact tl_6_8
  | 9, _ => exact tl_6_9
  | 10, _ => exact tl_6_10
  | 11, _ => exact tl_6_11
  | 12, _ => exact tl_6_12
  | 13, _ => exact tl_6_13
  | 14, _ => exact tl_6_14
  | 15, _ => exact tl_6_15
  | 16, _ => exact tl_6_16
  | 17, _ => exact tl_6_17
  | 18, _ => exact tl_6_18
  | 19, _ => exact tl_6_19
  | 20, _ => exact tl_6_20
  | 21, _ => exact tl_6_21
  | 22, _ => exact tl_6_22
  | 23, _ => exact tl_6_23
  | 24, _ => exact tl_6_24
  | 25, _ => exact tl_6_25
  | 26, _ => exact tl_6_26
  | 27, _ => exact tl_6_27
  | 28, _ => exact tl_6_28
  | 29, _ => exact tl_6_29
  | 30, _ => exact tl_6_30
  | 31, _ => exact tl_6_31
  | 32, _ => exact tl_6_32
  | 33, _ => exact tl_6_33
  | 34, _ => exact tl_6_34
  | 35, _ => exact tl_6_35
  | 36, _ => exact tl_6_36
  | 37, _ => exact tl_6_37
  | 38, _ => exact tl_6_38
  | 39, _ => exact tl_6_39
  | 40, _ => exact tl_6_40
  | 41, _ => exact tl_6_41
  | 42, _ => exact tl_6_42
  | 43, _ => exact tl_6_43
  | 44, _ => exact tl_6_44
  | 45, _ => exact tl_6_45
  | 46, _ => exact tl_6_46
  | 47, _ => exact tl_6_47
  | 48, _ => exact tl_6_48
  | 49, _ => exact tl_6_49
  | 50, _ => exact tl_6_50
  | 51, _ => exact tl_6_51
  | 52, _ => exact tl_6_52
  | 53, _ => exact tl_6_53
  | 54, _ => exact tl_6_54
  | 55, _ => exact tl_6_55
  | 56, _ => exact tl_6_56
  | 57, _ => exact tl_6_57
  | 58, _ => exact tl_6_58
  | 59, _ => exact tl_6_59
  | 60, _ => exact tl_6_60
  | 61, _ => exact tl_6_61
  | 62, _ => exact tl_6_62
  | 63, _ => exact tl_6_63
  | m + 64, h => exact absurd h (by omega)
theorem okT_is {o : Out Fl} (h : okT o = true) : ∃ s, o = .ok (.rt (.bl true)) s := by
  unfold okT at h
  split at h
  · exact ⟨_, rfl⟩
  · cases h
theorem two_is {n a b : Nat} (h : Sz n) (ha : a < 2 ^ n) (hb : b < 2 ^ n) (k : Nat) (st : Store) : callF k00.T (k + 11) 51 [natD n, natD a, natD b] st = .ok (.bl true) st := by
  have t : tlP n a := by
    rcases h.cases with rfl | rfl | rfl | rfl | rfl
    · exact tl_2 ha
    · exact tl_3 ha
    · exact tl_4 ha
    · exact tl_5 ha
    · exact tl_6 ha
  obtain ⟨s, e⟩ := okT_is (List.all_eq_true.mp t b (List.mem_range.mpr hb))
  have T : k00.T[51]? = some k00.f51 := rfl
  have f1 : k00.f51.keep = false := rfl
  have f2 : k00.f51.ps = 3 := rfl
  have f3 : k00.f51.sl = 11 := rfl
  have st0 : start 11 [natD n, natD a, natD b] = env0 n a b := rfl
  have c : callF k00.T 11 51 [natD n, natD a, natD b] [] = .ok (.bl true) [] := by
    rw [callF]
    simp only [T, runFn, f1, f2, f3, List.length_cons, List.length_nil, Nat.reduceAdd, if_true, st0]
    rw [two_pre h ha hb, e]
    try rfl
  have := frame frOk (k' := k + 11) c (by rfl) rfl (Nat.le_add_left _ _) st
  rwa [List.append_nil] at this
end K0
end Py
end
section
set_option Elab.async false
set_option linter.all false
set_option maxRecDepth 100000
set_option maxHeartbeats 1000000
namespace Py
namespace K0
/-! ### is_rising -/
theorem sqS {cf : CallF} {s r : Sm} {env env' : Env} {st st' : Store} (h : evS cf s env st = .ok (.nx env') st') : evS cf (.seq s r) env st = evS cf r env' st' := by
  rw [evS, h]
  try rfl
def risN (hi : Nat) : Nat → List Nat → Bool
  | _, [] => true
  | lo, s :: r => match Nat.ble lo s && Nat.ble s hi with
    | true => risN hi (s + 1) r
    | false => false
theorem rb_is (st : Store) (b : Bool) : resolve st (.bl b) = .bl b := rfl
theorem rn_is (st : Store) (m : Nat) : resolve st (natD m) = natD m := rfl
theorem rl_is (st : Store) (l : List D) : resolve st (.lst l) = .lst l := rfl
theorem rt_is (st : Store) (l : List D) : resolve st (.tup l) = .tup l := rfl
theorem within1 (k s lo hi : Nat) (st : Store) : callF k00.T (k + 2) 1 [natD s, natD lo, natD hi] st = .ok (.bl (Nat.ble lo s && Nat.ble s hi)) st := by
  have T1 : k00.T[1]? = some k00.f1 := rfl
  have st0 : start 3 [natD s, natD lo, natD hi] = [some (natD s), some (natD lo), some (natD hi)] := rfl
  have h0 : callF k00.T (k + 1) 0 [natD s] st = .ok (.bl true) st := by kernel_rfl
  have c1 : cmpD .le (natD lo) (natD s) = some (Nat.ble lo s) := rfl
  have c2 : cmpD .le (natD s) (natD hi) = some (Nat.ble s hi) := rfl
  rw [callF]
  simp only [T1, runFn, k00.f1, List.length_cons, List.length_nil, Nat.reduceAdd, if_true, evS, st0, evE, evL, List.getElem?_cons_zero, List.getElem?_cons_succ, ok_bind, callE, h0, rb_is, rn_is, truth, c1, c2]
  cases Nat.ble lo s <;> rfl
def risL : Sm := match k00.f3.body with | .seq _ (.seq _ (.seq (.for _ _ b) _)) => b | s => s
theorem risLT : risL = .seq (.ite (.not (.call 1 (.cons (.var 4) (.cons (.bin .add (.var 3) (.cst (.int 1))) (.cons (.var 2) .nil))))) (.seq (.ret (.cst (.bl false))) .nil) .nil) (.seq (.set (.var 3) (.var 4)) .nil) := by kernel_rfl
theorem ris_step (k s lo hi : Nat) (a0 a1 a4 : Option D) (x : D) (hx : binD .add x (.int 1) = some (natD lo)) (hr : ∀ st, resolve st x = x) (st : Store) :
    evS (callF k00.T (k + 2)) risL [a0, a1, some (natD hi), some x, some (natD s)] st = (match Nat.ble lo s && Nat.ble s hi with
      | true => .ok (.nx [a0, a1, some (natD hi), some (natD s), some (natD s)]) st
      | false => .ok (.rt (.bl false)) st) := by
  have w := within1 k s lo hi st
  have r1 : ∀ st, resolve st (.int 1) = .int 1 := fun st => rfl
  have og : opg st (some (natD lo)) = .ok (natD lo) st := rfl
  rw [risLT]
  simp only [evS, evE, evL, List.getElem?_cons_zero, List.getElem?_cons_succ, ok_bind, callE, hr, r1, hx, og, w, rb_is, truth, Option.map_some, opt_some]
  cases Nat.ble lo s && Nat.ble s hi <;> rfl
def risF (k : Nat) : D → Env → Store → Out Fl := fun x env st => match setTg (.var 4) x env with
  | some env' => evS (callF k00.T (k + 2)) risL env' st
  | .none => .stuck
theorem ris_loop (k hi : Nat) (a0 a1 : Option D) (st : Store) : ∀ (l : List Nat) (lo : Nat) (x : D) (a4 : Option D), binD .add x (.int 1) = some (natD lo) → (∀ st, resolve st x = x) →
    ∃ env, forL (risF k) (l.map natD) [a0, a1, some (natD hi), some x, a4] st = (match risN hi lo l with
      | true => .ok (.nx env) st
      | false => .ok (.rt (.bl false)) st)
  | [], lo, x, a4, hx, hr => ⟨_, rfl⟩
  | s :: r, lo, x, a4, hx, hr => by
    have e1 : risF k (natD s) [a0, a1, some (natD hi), some x, a4] st = evS (callF k00.T (k + 2)) risL [a0, a1, some (natD hi), some x, some (natD s)] st := rfl
    simp only [List.map_cons, forL, risN]
    rw [e1, ris_step k s lo hi a0 a1 a4 x hx hr st]
    cases hb : Nat.ble lo s && Nat.ble s hi with
    | false => exact ⟨[], rfl⟩
    | true =>
      obtain ⟨env, ih⟩ := ris_loop k hi a0 a1 st r (s + 1) (natD s) (some (natD s)) rfl (fun st => rfl)
      exact ⟨env, ih⟩
theorem rising3 (k hi : Nat) (v : D) (l : List Nat) (hv : v = .tup (l.map natD) ∨ v = .lst (l.map natD)) (st : Store) : callF k00.T (k + 3) 3 [v, .int 0, natD hi] st = .ok (.bl (risN hi 0 l)) st := by
  have T3 : k00.T[3]? = some k00.f3 := rfl
  have h2 : callF k00.T (k + 2) 2 [v] st = .ok (.bl true) st := by
    rcases hv with rfl | rfl <;> kernel_rfl
  have st0 : start 5 [v, .int 0, natD hi] = [some v, some (.int 0), some (natD hi), none, none] := rfl
  have sr : srcL (evE (callF k00.T (k + 2)) (.var 0) [some v, some (.int 0), some (natD hi), some (.int (-1)), none] st) = .ok (l.map natD) st := by
    rcases hv with rfl | rfl <;> rfl
  obtain ⟨env, e⟩ := ris_loop k hi (some v) (some (.int 0)) st l 0 (.int (-1)) none rfl (fun st => rfl)
  have b3 : k00.f3.body = .seq (.ite (.not (.call 2 (.cons (.var 0) .nil))) (.seq (.ret (.cst (.bl false))) .nil) .nil) (.seq (.set (.var 3) (.bin .sub (.var 1) (.cst (.int 1)))) (.seq (.for (.var 4) (.var 0) risL) (.seq (.ret (.cst (.bl true))) .nil))) := by kernel_rfl
  have f1 : k00.f3.keep = true := rfl
  have f2 : k00.f3.ps = 3 := rfl
  have f3 : k00.f3.sl = 5 := rfl
  have s1 : evS (callF k00.T (k + 2)) (.ite (.not (.call 2 (.cons (.var 0) .nil))) (.seq (.ret (.cst (.bl false))) .nil) .nil) [some v, some (.int 0), some (natD hi), none, none] st = .ok (.nx [some v, some (.int 0), some (natD hi), none, none]) st := by
    simp only [evS, evE, evL, List.getElem?_cons_zero, ok_bind, callE, h2, rb_is, truth, Option.map_some, opt_some, Bool.not_true]
  have s2 : evS (callF k00.T (k + 2)) (.set (.var 3) (.bin .sub (.var 1) (.cst (.int 1)))) [some v, some (.int 0), some (natD hi), none, none] st = .ok (.nx [some v, some (.int 0), some (natD hi), some (.int (-1)), none]) st := rfl
  rw [callF]
  simp only [T3, runFn, f1, f2, f3, b3, List.length_cons, List.length_nil, Nat.reduceAdd, if_true, st0]
  rw [sqS s1, sqS s2]
  have e' : evS (callF k00.T (k + 2)) (.for (.var 4) (.var 0) risL) [some v, some (.int 0), some (natD hi), some (.int (-1)), none] st = forL (risF k) (l.map natD) [some v, some (.int 0), some (natD hi), some (.int (-1)), none] st := by
    rw [evS, sr]
    try rfl
  rw [evS, e', e]
  cases risN hi 0 l <;> rfl
end K0
end Py
end
section
set_option Elab.async false
set_option linter.all false
set_option maxRecDepth 100000
set_option maxHeartbeats 1000000
namespace Py
namespace K0
/-! ### sets of states -/
def lastN (n : Nat) : Nat := 2 ^ n - 1
theorem lastE {n : Nat} (h : Sz n) (cf : CallF) (i : Nat) (env : Env) (st : Store) (he : env[i]? = some (some (natD n))) : evE cf (.bin .sub (.bin .shl (.cst (.int 1)) (.var i)) (.cst (.int 1))) env st = .ok (natD (lastN n)) st := by
  simp only [evE, he, ok_bind]
  rcases h.cases with rfl | rfl | rfl | rfl | rfl <;> kernel_rfl
theorem cnt14 {n : Nat} (h : Sz n) (k : Nat) (st : Store) : callF k00.T (k + 3) 14 [natD n] st = .ok .none st := by
  rcases h.cases with rfl | rfl | rfl | rfl | rfl <;> kernel_rfl
def isSeqN (v : D) (l : List Nat) : Prop := v = .tup (l.map natD) ∨ v = .lst (l.map natD)
theorem setof6 {n : Nat} (h : Sz n) (k : Nat) (v : D) (l : List Nat) (hv : isSeqN v l) (st : Store) : callF k00.T (k + 4) 6 [natD n, v] st = .ok (.bl (risN (lastN n) 0 l)) st := by
  have T6 : k00.T[6]? = some k00.f6 := rfl
  have st0 : start 2 [natD n, v] = [some (natD n), some v] := rfl
  have r := rising3 k (lastN n) v l hv st
  have e := lastE h (callF k00.T (k + 3)) 0 [some (natD n), some v] st rfl
  have b : k00.f6.body = .seq (.ret (.call 3 (.cons (.var 1) (.cons (.cst (.int 0)) (.cons (.bin .sub (.bin .shl (.cst (.int 1)) (.var 0)) (.cst (.int 1))) .nil))))) .nil := rfl
  have f1 : k00.f6.keep = true := rfl
  have f2 : k00.f6.ps = 2 := rfl
  have f3 : k00.f6.sl = 2 := rfl
  have el : evL (callF k00.T (k + 3)) (.cons (.var 1) (.cons (.cst (.int 0)) (.cons (.bin .sub (.bin .shl (.cst (.int 1)) (.var 0)) (.cst (.int 1))) .nil))) [some (natD n), some v] st = .ok [v, .int 0, natD (lastN n)] st := by
    rw [evL, evE]
    simp only [List.getElem?_cons_zero, List.getElem?_cons_succ, ok_bind]
    rw [evL, evE]
    simp only [ok_bind]
    rw [evL, e]
    try rfl
  rw [callF]
  simp only [T6, runFn, f1, f2, f3, b, List.length_cons, List.length_nil, Nat.reduceAdd, if_true, st0]
  rw [evS, evS, evE, el]
  simp only [ok_bind, callE, r]
theorem isset34 {n : Nat} (h : Sz n) (k : Nat) (v : D) (l : List Nat) (hv : isSeqN v l) (st : Store) : callF k00.T (k + 5) 34 [natD n, v] st = .ok (.bl (risN (lastN n) 0 l)) st := by
  have T : k00.T[34]? = some k00.f34 := rfl
  have st0 : start 2 [natD n, v] = [some (natD n), some v] := rfl
  have c14 : ∀ st, callF k00.T (k + 4) 14 [natD n] st = .ok .none st := fun st => cnt14 h (k + 1) st
  have c6 := setof6 h k v l hv st
  rw [callF]
  simp only [T, runFn, k00.f34, List.length_cons, List.length_nil, Nat.reduceAdd, if_true, evS, st0, evE, evL, List.getElem?_cons_zero, List.getElem?_cons_succ, ok_bind, callE, c14, c6]
theorem chk17 {n : Nat} (h : Sz n) (k : Nat) (v : D) (l : List Nat) (hv : isSeqN v l) (hr : risN (lastN n) 0 l = true) (st : Store) : callF k00.T (k + 5) 17 [natD n, v] st = .ok .none st := by
  have T : k00.T[17]? = some k00.f17 := rfl
  have st0 : start 2 [natD n, v] = [some (natD n), some v] := rfl
  have c14 : ∀ st, callF k00.T (k + 4) 14 [natD n] st = .ok .none st := fun st => cnt14 h (k + 1) st
  have c6 := setof6 h k v l hv st
  rw [hr] at c6
  rw [callF]
  simp only [T, runFn, k00.f17, List.length_cons, List.length_nil, Nat.reduceAdd, if_true, evS, st0, evE, evL, List.getElem?_cons_zero, List.getElem?_cons_succ, ok_bind, callE, c14, c6, rb_is, truth, Option.map_some, opt_some, Bool.not_true]
theorem ris_cons {hi lo s : Nat} {r : List Nat} : risN hi lo (s :: r) = true ↔ (lo ≤ s ∧ s ≤ hi) ∧ risN hi (s + 1) r = true := by
  simp only [risN]
  cases h1 : Nat.ble lo s with
  | false =>
    have : ¬ lo ≤ s := fun h => by rw [Nat.ble_eq_true_of_le h] at h1; cases h1
    simp [this]
  | true =>
    have a := Nat.le_of_ble_eq_true h1
    cases h2 : Nat.ble s hi with
    | false =>
      have : ¬ s ≤ hi := fun h => by rw [Nat.ble_eq_true_of_le h] at h2; cases h2
      simp [this]
    | true =>
      have b := Nat.le_of_ble_eq_true h2
      simp [a, b]
theorem ris_big {hi s : Nat} (h : hi < s) : ∀ (l : List Nat) (lo : Nat), risN hi lo (l ++ [s]) = false
  | [], lo => Bool.eq_false_iff.mpr fun e => by
    have := (ris_cons.mp e).1.2
    omega
  | a :: r, lo => Bool.eq_false_iff.mpr fun e => by
    have := (ris_cons.mp e).2
    have ih : risN hi (a + 1) (r ++ [s]) = false := ris_big h r (a + 1)
    have : risN hi (a + 1) (r ++ [s]) = true := this
    rw [ih] at this
    cases this
theorem ris_dup {hi s : Nat} : ∀ (l : List Nat) (lo : Nat), risN hi lo (l ++ [s, s]) = false
  | [], lo => Bool.eq_false_iff.mpr fun e => by
    have := (ris_cons.mp (ris_cons.mp e).2).1.1
    omega
  | a :: r, lo => Bool.eq_false_iff.mpr fun e => by
    have ih : risN hi (a + 1) (r ++ [s, s]) = false := ris_dup r (a + 1)
    have : risN hi (a + 1) (r ++ [s, s]) = true := (ris_cons.mp e).2
    rw [ih] at this
    cases this
theorem ris_mem {hi : Nat} : ∀ {l : List Nat} {lo s : Nat}, risN hi lo l = true → s ∈ l → lo ≤ s ∧ s ≤ hi
  | a :: r, lo, s, h, hm => by
    obtain ⟨h1, h2⟩ := ris_cons.mp h
    rcases List.mem_cons.mp hm with rfl | hm
    · exact h1
    · have := ris_mem h2 hm
      omega
end K0
end Py
end
section
set_option Elab.async false
set_option linter.all false
set_option maxRecDepth 100000
set_option maxHeartbeats 1000000
namespace Py
namespace K0
/-! ### what is no set -/
theorem binE {cf : CallF} {op : BOp} {a b : Ex} {env : Env} {st : Store} {x y d : D} (h1 : evE cf a env st = .ok x st) (h2 : evE cf b env st = .ok y st) (h : opg st (binD op (resolve st x) (resolve st y)) = .ok d st) : evE cf (.bin op a b) env st = .ok d st := by
  rw [evE, h1]
  simp only [ok_bind]
  rw [h2]
  exact h
theorem iteTx {cf : CallF} {c a b : Ex} {env : Env} {st : Store} {x : D} {o : Out D} (h1 : evE cf c env st = .ok x st) (ht : truth (resolve st x) = some true) (h : evE cf a env st = o) : evE cf (.ite c a b) env st = o := by
  rw [evE, h1]
  simp only [ok_bind, ht]
  exact h
theorem iteFx {cf : CallF} {c a b : Ex} {env : Env} {st : Store} {x : D} {o : Out D} (h1 : evE cf c env st = .ok x st) (ht : truth (resolve st x) = some false) (h : evE cf b env st = o) : evE cf (.ite c a b) env st = o := by
  rw [evE, h1]
  simp only [ok_bind, ht]
  exact h
theorem lenAll {n : Nat} (h : Sz n) (k i : Nat) (env : Env) (st : Store) (he : env[i]? = some (some (natD n))) : evE (callF k00.T (k + 1)) (.prim .len (.cons (.call 49 (.cons (.var i) .nil)) .nil)) env st = .ok (natD (2 ^ n)) st := by
  have c : callF k00.T (k + 1) 49 [natD n] st = .ok (.lst (rng 0 (2 ^ n))) st := all_is h k st
  have p : opg st (primD .len [.lst (rng 0 (2 ^ n))]) = .ok (natD (2 ^ n)) st := by
    rcases h.cases with rfl | rfl | rfl | rfl | rfl <;> kernel_rfl
  simp only [evE, evL, he, ok_bind, callE, c, List.map_cons, List.map_nil, rl_is, p]
def badL : Sm := match lawS 10 with | .for _ _ b => b | s => s
theorem badLT : badL = .seq (.ite (.not (.call 45 (.cons (.call 34 (.cons (.var 3) (.cons (.var 10) .nil))) (.cons (.cst (.bl false)) .nil)))) (.seq (.ret (.cst (.bl false))) .nil) .nil) .nil := by kernel_rfl
def badF : D → Env → Store → Out Fl := fun x env st => match setTg (.var 10) x env with
  | some env' => evS (callF k00.T 11) badL env' st
  | .none => .stuck
theorem bad_step {n : Nat} (h : Sz n) (v : D) (hv : gl (some v) = some v) (c : ∀ st, callF k00.T 11 34 [natD n, v] st = .ok (.bl false) st) (a0 a1 a2 a4 a5 a6 a7 a8 a9 a10 : Option D) (st : Store) :
    badF v [a0, a1, a2, some (natD n), a4, a5, a6, a7, a8, a9, a10] st = .ok (.nx [a0, a1, a2, some (natD n), a4, a5, a6, a7, a8, a9, some v]) st := by
  have sg : setTg (.var 10) v [a0, a1, a2, some (natD n), a4, a5, a6, a7, a8, a9, a10] = some [a0, a1, a2, some (natD n), a4, a5, a6, a7, a8, a9, some v] := by
    rw [setTg, hv]
    try rfl
  unfold badF
  simp only [sg]
  rw [badLT]
  rw [sqS (iteNot (callSame (d := .bl false) (e := .bl false) ?_ rfl (same_bl 10 false false st)))]
  · rfl
  · simp only [evE, evL, List.getElem?_cons_zero, List.getElem?_cons_succ, ok_bind, callE, c]
theorem l10 {n : Nat} (h : Sz n) (l : List Nat) (hl : l.length ≤ 4096) (a0 a1 a2 a4 a5 a6 a7 a9 a10 : Option D) (st : Store) :
    evS (callF k00.T 11) (lawS 10) [a0, a1, a2, some (natD n), a4, a5, a6, a7, some (.tup (l.map natD)), a9, a10] st = .ok (.nx [a0, a1, a2, some (natD n), a4, a5, a6, a7, some (.tup (l.map natD)), a9, some (.int 7)]) st := by
  have t : lawS 10 = .for (.var 10) (.tup (.cons (.bin .add (.var 8) (.tup (.cons (.prim .len (.cons (.call 49 (.cons (.var 3) .nil)) .nil)) .nil))) (.cons (.ite (.var 8) (.bin .add (.var 8) (.slc (.var 8) (.neg (.cst (.int 1))) (.cst .none))) (.tup (.cons (.cst (.int 0)) (.cons (.cst (.int 0)) .nil)))) (.cons (.tup (.cons (.cst (.int 1)) (.cons (.cst (.int 0)) .nil))) (.cons (.cst (.int 7)) .nil))))) badL := by kernel_rfl
  have sz : sizeMax = 16777216 := rfl
  -- the four
  have ln := lenAll h 10 3 [a0, a1, a2, some (natD n), a4, a5, a6, a7, some (.tup (l.map natD)), a9, a10] st rfl
  have hn : lastN n < 2 ^ n := by
    unfold lastN
    have : 0 < 2 ^ n := Nat.two_pow_pos n
    omega
  have t1 : evE (callF k00.T 11) (.tup (.cons (.prim .len (.cons (.call 49 (.cons (.var 3) .nil)) .nil)) .nil)) [a0, a1, a2, some (natD n), a4, a5, a6, a7, some (.tup (l.map natD)), a9, a10] st = .ok (.tup [natD (2 ^ n)]) st := by
    rw [evE, evL, ln]
    try rfl
  have ad : ∀ l2 : List Nat, l2.length ≤ 1 → opg st (binD .add (.tup (l.map natD)) (.tup (l2.map natD))) = .ok (.tup ((l ++ l2).map natD)) st := fun l2 h2 => by
    have : (l.map natD).length + (l2.map natD).length ≤ sizeMax := by
      rw [List.length_map, List.length_map]
      omega
    simp only [binD, this, if_true, List.map_append]
    try rfl
  have e1 : evE (callF k00.T 11) (.bin .add (.var 8) (.tup (.cons (.prim .len (.cons (.call 49 (.cons (.var 3) .nil)) .nil)) .nil))) [a0, a1, a2, some (natD n), a4, a5, a6, a7, some (.tup (l.map natD)), a9, a10] st = .ok (.tup ((l ++ [2 ^ n]).map natD)) st := by
    exact binE rfl t1 (ad [2 ^ n] (by simp))
  obtain ⟨l2, hl2, e2⟩ : ∃ l2, (∀ k, risN (lastN n) k l2 = false) ∧ evE (callF k00.T 11) (.ite (.var 8) (.bin .add (.var 8) (.slc (.var 8) (.neg (.cst (.int 1))) (.cst .none))) (.tup (.cons (.cst (.int 0)) (.cons (.cst (.int 0)) .nil)))) [a0, a1, a2, some (natD n), a4, a5, a6, a7, some (.tup (l.map natD)), a9, a10] st = .ok (.tup (l2.map natD)) st := by
    rcases List.eq_nil_or_concat l with rfl | ⟨i, s, rfl⟩
    · exact ⟨[0, 0], fun k => ris_dup [] k, rfl⟩
    · rw [List.concat_eq_append] at ad hl ⊢
      refine ⟨i ++ [s, s], fun k => ris_dup i k, ?_⟩
      have tr : truth (.tup ((i ++ [s]).map natD)) = some true := by
        rw [List.map_append]
        cases i <;> rfl
      have cu : slcD (.tup ((i ++ [s]).map natD)) (.int (-1)) .none = some (.tup ([s].map natD)) := by
        show (slcL ((i ++ [s]).map natD) (.int (.negSucc 0)) .none).map D.tup = _
        have e1 : ((i ++ [s]).map natD).length - (0 + 1) = (i.map natD).length := by simp
        have e2 : ((i ++ [s]).map natD).length - (i.map natD).length = 1 := by simp
        simp only [slcL, cut, e1, e2, Option.map_some]
        rw [List.map_append, List.drop_left]
        try rfl
      have ec : evE (callF k00.T 11) (.slc (.var 8) (.neg (.cst (.int 1))) (.cst .none)) [a0, a1, a2, some (natD n), a4, a5, a6, a7, some (.tup ((i ++ [s]).map natD)), a9, a10] st = .ok (.tup ([s].map natD)) st := by
        have p1 : partOk (isCN (.neg (.cst (.int 1)))) (.int (-1)) = true := rfl
        have p2 : partOk (isCN (.cst .none)) .none = true := rfl
        simp only [evE, List.getElem?_cons_zero, List.getElem?_cons_succ, ok_bind, rt_is, p1, p2, if_true, cu]
        try rfl
      have := ad [s] (by simp)
      rw [List.append_assoc] at this
      exact iteTx rfl tr (binE rfl ec this)
  have src : srcL (evE (callF k00.T 11) (.tup (.cons (.bin .add (.var 8) (.tup (.cons (.prim .len (.cons (.call 49 (.cons (.var 3) .nil)) .nil)) .nil))) (.cons (.ite (.var 8) (.bin .add (.var 8) (.slc (.var 8) (.neg (.cst (.int 1))) (.cst .none))) (.tup (.cons (.cst (.int 0)) (.cons (.cst (.int 0)) .nil)))) (.cons (.tup (.cons (.cst (.int 1)) (.cons (.cst (.int 0)) .nil))) (.cons (.cst (.int 7)) .nil))))) [a0, a1, a2, some (natD n), a4, a5, a6, a7, some (.tup (l.map natD)), a9, a10] st) = .ok [.tup ((l ++ [2 ^ n]).map natD), .tup (l2.map natD), .tup [.int 1, .int 0], .int 7] st := by
    rw [evE, evL, e1]
    simp only [ok_bind]
    rw [evL, e2]
    try rfl
  have b1 : ∀ st, callF k00.T 11 34 [natD n, .tup ((l ++ [2 ^ n]).map natD)] st = .ok (.bl false) st := fun st => by
    rw [isset34 h 6 _ (l ++ [2 ^ n]) (Or.inl rfl), ris_big hn]
  have b2 : ∀ st, callF k00.T 11 34 [natD n, .tup (l2.map natD)] st = .ok (.bl false) st := fun st => by
    rw [isset34 h 6 _ l2 (Or.inl rfl), hl2]
  have b3 : ∀ st, callF k00.T 11 34 [natD n, .tup [.int 1, .int 0]] st = .ok (.bl false) st := fun st => by
    have e : callF k00.T 11 34 [natD n, .tup [.int 1, .int 0]] st = .ok (.bl (risN (lastN n) 0 [1, 0])) st := isset34 h 6 _ [1, 0] (Or.inl rfl) st
    rw [e]
    rcases h.cases with rfl | rfl | rfl | rfl | rfl <;> rfl
  have b4 : ∀ st, callF k00.T 11 34 [natD n, .int 7] st = .ok (.bl false) st := fun st => by
    rcases h.cases with rfl | rfl | rfl | rfl | rfl <;> kernel_rfl
  rw [t, evS, src]
  simp only [ok_bind]
  show forL badF _ _ st = _
  rw [forL, bad_step h _ rfl b1]
  simp only [ok_bind]
  rw [forL, bad_step h _ rfl b2]
  simp only [ok_bind]
  rw [forL, bad_step h _ rfl b3]
  simp only [ok_bind]
  rw [forL, bad_step h _ rfl b4]
  simp only [ok_bind]
  rw [forL]
end K0
end Py
end
section
set_option Elab.async false
set_option linter.all false
set_option maxRecDepth 100000
set_option maxHeartbeats 1000000
namespace Py
namespace K0
/-! ### the seats -/
def drCell (s : Int) : Cell := ⟨false, .lst [.int s]⟩
theorem draw44 {k l m : Nat} {s : Int} {st : Store} (h : st[l]? = some (drCell s)) (hm : 0 < m) : ∃ d s', d < m ∧ callF k00.T (k + 1) 44 [.loc l, natD m] st = .ok (natD d) (st.set l (drCell s')) := by
  have hm' : (0 : Int) < Int.ofNat m := Int.ofNat_lt.mpr hm
  have e := draw_k00 (k := k) h hm'
  have h1 : 0 ≤ drawOf s (Int.ofNat m) := Int.emod_nonneg _ (by omega)
  have h2 : drawOf s (Int.ofNat m) < Int.ofNat m := Int.emod_lt_of_pos _ hm'
  have hlt : (drawOf s (Int.ofNat m)).toNat < m := by
    have h3 : drawOf s (Int.ofNat m) < (m : Int) := h2
    omega
  refine ⟨(drawOf s (Int.ofNat m)).toNat, nxt s, hlt, ?_⟩
  have : natD (drawOf s (Int.ofNat m)).toNat = .int (drawOf s (Int.ofNat m)) := by
    show D.int (Int.ofNat _) = _
    congr 1
    exact Int.toNat_of_nonneg h1
  rw [this]
  exact e
def reR (l : List Nat) (k j : Nat) : List Nat := l.take k ++ [l.getD j 0] ++ (l.drop k).take (j - k) ++ l.drop (j + 1)
theorem reR_len {l : List Nat} {k j : Nat} (h1 : k ≤ j) (h2 : j < l.length) : (reR l k j).length = l.length := by
  simp only [reR, List.length_append, List.length_take, List.length_drop, List.length_cons, List.length_nil]
  omega
theorem slc_map {l : List Nat} {i j : Nat} (hj : j ≤ l.length) (hi : i ≤ l.length) : slcL (l.map natD) (natD i) (natD j) = some (((l.drop i).take (j - i)).map natD) := by
  simp only [slcL, natD, cut, List.length_map, Nat.min_eq_left hi, Nat.min_eq_left hj, List.map_take, List.map_drop]
theorem slcE {cf : CallF} {a lo hi : Ex} {env : Env} {st : Store} {x y z d : D} (h1 : evE cf a env st = .ok x st) (h2 : evE cf lo env st = .ok y st) (p2 : partOk (isCN lo) y = true) (h3 : evE cf hi env st = .ok z st) (p3 : partOk (isCN hi) z = true) (h : opg st (slcD (resolve st x) y z) = .ok d st) : evE cf (.slc a lo hi) env st = .ok d st := by
  rw [evE, h1]
  simp only [ok_bind]
  rw [h2]
  simp only [ok_bind, p2, if_true]
  rw [h3]
  simp only [ok_bind, p3, if_true]
  exact h
def seatL : Sm := match k00.f50.body with | .seq _ (.seq (.for _ _ b) _) => b | s => s
def seatS : Sm := hdS (tlK 1 seatL)
theorem seat_step (cf : CallF) (a0 a1 : Option D) (l : List Nat) (k j : Nat) (h1 : k ≤ j) (h2 : j < l.length) (hl : l.length ≤ 64) (st : Store) : evS cf seatS [a0, a1, some (.lst (l.map natD)), some (natD k), some (natD j)] st = .ok (.nx [a0, a1, some (.lst ((reR l k j).map natD)), some (natD k), some (natD j)]) st := by
  have t : seatS = .set (.var 2) (.bin .add (.bin .add (.bin .add (.slc (.var 2) (.cst .none) (.var 3)) (.lst (.cons (.ix (.var 2) (.var 4)) .nil))) (.slc (.var 2) (.var 3) (.var 4))) (.slc (.var 2) (.bin .add (.var 4) (.cst (.int 1))) (.cst .none))) := by kernel_rfl
  have ad : ∀ l1 l2 : List Nat, l1.length ≤ 4096 → l2.length ≤ 4096 → opg st (binD .add (.lst (l1.map natD)) (.lst (l2.map natD))) = .ok (.lst ((l1 ++ l2).map natD)) st := fun l1 l2 h1 h2 => by
    have : (l1.map natD).length + (l2.map natD).length ≤ sizeMax := by
      have : sizeMax = 16777216 := rfl
      rw [List.length_map, List.length_map]
      omega
    simp only [binD, this, if_true, List.map_append]
    try rfl
  have p : ∀ m, partOk (isCN (.var m)) (natD k) = true := fun m => rfl
  have pj : ∀ m, partOk (isCN (.var m)) (natD j) = true := fun m => rfl
  have s1 : evE cf (.slc (.var 2) (.cst .none) (.var 3)) [a0, a1, some (.lst (l.map natD)), some (natD k), some (natD j)] st = .ok (.lst ((l.take k).map natD)) st := by
    refine slcE rfl rfl rfl rfl rfl ?_
    have : slcD (.lst (l.map natD)) .none (natD k) = some (.lst ((l.take k).map natD)) := by
      show (slcL (l.map natD) .none (natD k)).map D.lst = _
      simp only [slcL, natD, cut, List.length_map, Nat.min_eq_left (Nat.le_trans h1 (Nat.le_of_lt h2)), List.drop_zero, Nat.sub_zero, List.map_take, Option.map_some]
    show opg st (slcD (.lst (l.map natD)) .none (natD k)) = _
    rw [this]
    try rfl
  have s2 : evE cf (.slc (.var 2) (.var 3) (.var 4)) [a0, a1, some (.lst (l.map natD)), some (natD k), some (natD j)] st = .ok (.lst (((l.drop k).take (j - k)).map natD)) st := by
    refine slcE rfl rfl rfl rfl rfl ?_
    show opg st ((slcL (l.map natD) (natD k) (natD j)).map D.lst) = _
    rw [slc_map (by omega) (by omega)]
    try rfl
  have s3 : evE cf (.slc (.var 2) (.bin .add (.var 4) (.cst (.int 1))) (.cst .none)) [a0, a1, some (.lst (l.map natD)), some (natD k), some (natD j)] st = .ok (.lst ((l.drop (j + 1)).map natD)) st := by
    refine slcE (y := natD (j + 1)) rfl rfl rfl rfl rfl ?_
    have : slcD (.lst (l.map natD)) (natD (j + 1)) .none = some (.lst ((l.drop (j + 1)).map natD)) := by
      show (slcL (l.map natD) (natD (j + 1)) .none).map D.lst = _
      have e : min (j + 1) l.length = j + 1 := Nat.min_eq_left h2
      simp only [slcL, natD, cut, List.length_map, e, Option.map_some]
      rw [← List.map_drop, List.take_of_length_le (by simp)]
    show opg st (slcD (.lst (l.map natD)) (natD (j + 1)) .none) = _
    rw [this]
    try rfl
  have s4 : evE cf (.lst (.cons (.ix (.var 2) (.var 4)) .nil)) [a0, a1, some (.lst (l.map natD)), some (natD k), some (natD j)] st = .ok (.lst ([l.getD j 0].map natD)) st := by
    have x : ixD (.lst (l.map natD)) (natD j) = some (natD (l.getD j 0)) := by
      show ((idx (l.map natD).length (.ofNat j)).bind _ : Option D) = _
      simp [idx, h2]
    have : evE cf (.ix (.var 2) (.var 4)) [a0, a1, some (.lst (l.map natD)), some (natD k), some (natD j)] st = .ok (natD (l.getD j 0)) st := by
      show opg st (ixD (.lst (l.map natD)) (natD j)) = _
      rw [x]
      try rfl
    rw [evE, evL, this]
    try rfl
  have lt : (l.take k).length ≤ 64 := by rw [List.length_take]; omega
  have lt2 : ((l.drop k).take (j - k)).length ≤ 64 := by rw [List.length_take, List.length_drop]; omega
  have lt3 : (l.drop (j + 1)).length ≤ 64 := by rw [List.length_drop]; omega
  have e := binE (binE (binE s1 s4 (ad _ _ (by omega) (by simp))) s2 (ad _ _ (by simp only [List.length_append, List.length_cons, List.length_nil]; omega) (by omega))) s3 (ad _ _ (by simp only [List.length_append, List.length_cons, List.length_nil]; omega) (by omega))
  rw [t, evS, e]
  try rfl
/-- the rows that can be after k steps -/
def seatP (n : Nat) : Nat → List (List Nat)
  | 0 => [List.range n]
  | k + 1 => (seatP n k).flatMap fun r => (List.range' k (n - k)).map fun j => reR r k j
theorem seatP_len {n : Nat} : ∀ {k : Nat} {r : List Nat}, r ∈ seatP n k → r.length = n
  | 0, r, h => by rw [List.mem_singleton.mp h, List.length_range]
  | k + 1, r, h => by
    obtain ⟨q, hq, hr⟩ := List.mem_flatMap.mp h
    obtain ⟨j, hj, rfl⟩ := List.mem_map.mp hr
    have := seatP_len hq
    have hj := List.mem_range'_1.mp hj
    rw [reR_len hj.1 (by omega), this]
def seatF (k : Nat) : D → Env → Store → Out Fl := fun x env st => match setTg (.var 3) x env with
  | some env' => evS (callF k00.T (k + 1)) seatL env' st
  | .none => .stuck
theorem set_same {st : Store} {l : Nat} {c c' : Cell} : (st.set l c).set l c' = st.set l c' := List.set_set ..
theorem seat_loop (k l n : Nat) (hn : n ≤ 6) : ∀ (m i : Nat) (s : Int) (r : List Nat) (a3 a4 : Option D) (st : Store), i + m = n → r ∈ seatP n i → st[l]? = some (drCell s) →
    ∃ r' s' env, r' ∈ seatP n n ∧ forL (seatF k) ((List.range' i m).map natD) [some (.loc l), some (natD n), some (.lst (r.map natD)), a3, a4] st = .ok (.nx (some (.loc l) :: some (natD n) :: some (.lst (r'.map natD)) :: env)) (st.set l (drCell s'))
  | 0, i, s, r, a3, a4, st, hi, hr, hs => by
    obtain rfl : i = n := by omega
    refine ⟨r, s, [a3, a4], hr, ?_⟩
    have : st.set l (drCell s) = st := List.ext_getElem? fun i => by
      by_cases h : l = i
      · subst h; rw [List.getElem?_set_self (List.getElem?_eq_some_iff.mp hs).1, hs]
      · rw [List.getElem?_set_ne h]
    rw [this]
    try rfl
  | m + 1, i, s, r, a3, a4, st, hi, hr, hs => by
    obtain ⟨d, s1, hd, e⟩ := draw44 (k := k) (m := n - i) hs (by omega)
    have hs1 : (st.set l (drCell s1))[l]? = some (drCell s1) := get_set hs
    have rl := seatP_len hr
    have hr1 : reR r i (i + d) ∈ seatP n (i + 1) := List.mem_flatMap.mpr ⟨r, hr, List.mem_map.mpr ⟨i + d, List.mem_range'_1.mpr ⟨by omega, by omega⟩, rfl⟩⟩
    obtain ⟨r', s', env, h1, h2⟩ := seat_loop k l n hn m (i + 1) s1 (reR r i (i + d)) (some (natD i)) (some (natD (i + d))) (st.set l (drCell s1)) (by omega) hr1 hs1
    refine ⟨r', s', env, h1, ?_⟩
    rw [set_same] at h2
    have sb : opg st (binD .sub (natD n) (natD i)) = .ok (natD (n - i)) st := by
      show opg st (some (.int (Int.ofNat n - Int.ofNat i))) = _
      have : Int.ofNat n - Int.ofNat i = Int.ofNat (n - i) := by
        show (n : Int) - (i : Int) = ((n - i : Nat) : Int)
        omega
      rw [this]
      try rfl
    have ad : ∀ st, opg st (binD .add (natD i) (natD d)) = .ok (natD (i + d)) st := fun st => rfl
    have tl : seatL = .seq (.set (.var 4) (.bin .add (.var 3) (.call 44 (.cons (.var 0) (.cons (.bin .sub (.var 1) (.var 3)) .nil))))) (.seq seatS .nil) := by kernel_rfl
    have f : seatF k (natD i) [some (.loc l), some (natD n), some (.lst (r.map natD)), a3, a4] st = .ok (.nx [some (.loc l), some (natD n), some (.lst ((reR r i (i + d)).map natD)), some (natD i), some (natD (i + d))]) (st.set l (drCell s1)) := by
      show evS (callF k00.T (k + 1)) seatL [some (.loc l), some (natD n), some (.lst (r.map natD)), some (natD i), a4] st = _
      have es : evS (callF k00.T (k + 1)) (.set (.var 4) (.bin .add (.var 3) (.call 44 (.cons (.var 0) (.cons (.bin .sub (.var 1) (.var 3)) .nil))))) [some (.loc l), some (natD n), some (.lst (r.map natD)), some (natD i), a4] st = .ok (.nx [some (.loc l), some (natD n), some (.lst (r.map natD)), some (natD i), some (natD (i + d))]) (st.set l (drCell s1)) := by
        simp only [evS, evE, evL, List.getElem?_cons_zero, List.getElem?_cons_succ, ok_bind, rn_is, sb, callE, e, ad, List.set_cons_succ, List.set_cons_zero]
      rw [tl, sqS es, sqS (seat_step _ _ _ r i (i + d) (by omega) (by omega) (by omega) _)]
      try rfl
    rw [List.range'_succ, List.map_cons, forL, f]
    exact h2
theorem rgN {n : Nat} (h : Sz n) (cf : CallF) (i : Nat) (env : Env) (st : Store) (he : env[i]? = some (some (natD n))) : srcL (evE cf (.prim .range1 (.cons (.var i) .nil)) env st) = .ok ((List.range' 0 n).map natD) st := by
  simp only [evE, evL, he, ok_bind]
  rcases h.cases with rfl | rfl | rfl | rfl | rfl <;> kernel_rfl
theorem seats50 {n : Nat} (h : Sz n) (k l : Nat) (s : Int) (st : Store) (hs : st[l]? = some (drCell s)) : ∃ r s', r ∈ seatP n n ∧ callF k00.T (k + 2) 50 [.loc l, natD n] st = .ok (.tup (r.map natD)) (st.set l (drCell s')) := by
  have T : k00.T[50]? = some k00.f50 := rfl
  have st0 : start 5 [.loc l, natD n] = [some (.loc l), some (natD n), none, none, none] := rfl
  have b : k00.f50.body = .seq (.set (.var 2) (.prim .lrange1 (.cons (.var 1) .nil))) (.seq (.for (.var 3) (.prim .range1 (.cons (.var 1) .nil)) seatL) (.seq (.ret (.prim .tuple (.cons (.var 2) .nil))) .nil)) := by kernel_rfl
  have f1 : k00.f50.keep = true := rfl
  have f2 : k00.f50.ps = 2 := rfl
  have f3 : k00.f50.sl = 5 := rfl
  have s1 : evS (callF k00.T (k + 1)) (.set (.var 2) (.prim .lrange1 (.cons (.var 1) .nil))) [some (.loc l), some (natD n), none, none, none] st = .ok (.nx [some (.loc l), some (natD n), some (.lst ((List.range n).map natD)), none, none]) st := by
    rcases h.cases with rfl | rfl | rfl | rfl | rfl <;> kernel_rfl
  obtain ⟨r, s', env, h1, h2⟩ := seat_loop k l n h.2 n 0 s (List.range n) none none st (by omega) (List.mem_singleton.mpr rfl) hs
  refine ⟨r, s', h1, ?_⟩
  have s2 : evS (callF k00.T (k + 1)) (.for (.var 3) (.prim .range1 (.cons (.var 1) .nil)) seatL) [some (.loc l), some (natD n), some (.lst ((List.range n).map natD)), none, none] st = .ok (.nx (some (.loc l) :: some (natD n) :: some (.lst (r.map natD)) :: env)) (st.set l (drCell s')) := by
    rw [evS, rgN h _ 1 _ _ rfl]
    exact h2
  rw [callF]
  simp only [T, runFn, f1, f2, f3, b, List.length_cons, List.length_nil, Nat.reduceAdd, if_true, st0]
  rw [sqS s1, sqS s2]
  try rfl
end K0
end Py
end
section
set_option Elab.async false
set_option linter.all false
set_option maxRecDepth 100000
set_option maxHeartbeats 0
namespace Py
namespace K0
/-! ### moved -/
theorem pg {st : Store} {c : Cell} : (st ++ [c])[st.length]? = some c := by simp
theorem ps {st : Store} {c c' : Cell} : (st ++ [c]).set st.length c' = st ++ [c'] := by simp
theorem rgM (n : Nat) (x : Nat → Bool) (s : Nat) (h : s < n) : ((List.range n).map fun t => D.bl (x t))[s]? = some (.bl (x s)) := by simp [h]
def nuC (n : Nat) (x : Nat → Bool) : Cell := ⟨false, .lst ((List.range n).map fun t => .bl (x t))⟩
def updB (x : Nat → Bool) (s : Nat) : Nat → Bool := fun t => Nat.beq t s || x t
theorem nu_set {n : Nat} {x : Nat → Bool} {s : Nat} (h : s < n) : ((List.range n).map fun t => D.bl (x t)).set s (.bl true) = (List.range n).map fun t => D.bl (updB x s t) := by
  refine List.ext_getElem? fun i => ?_
  by_cases e : s = i
  · subst e
    rw [List.getElem?_set_self (by simp [h]), rgM n _ s h]
    simp [updB]
  · rw [List.getElem?_set_ne e]
    by_cases hi : i < n
    · rw [rgM n _ i hi, rgM n _ i hi]
      have : Nat.beq i s = false := Bool.eq_false_iff.mpr fun z => e (Nat.eq_of_beq_eq_true z).symm
      simp [updB, this]
    · rw [List.getElem?_eq_none (by simp; omega), List.getElem?_eq_none (by simp; omega)]
def nuL : Sm := match k00.f4.body with | .seq _ (.seq _ (.seq (.for _ _ b) _)) => b | s => s
def nuF (k : Nat) : D → Env → Store → Out Fl := fun x env st => match setTg (.var 3) x env with
  | some env' => evS (callF k00.T (k + 2)) nuL env' st
  | .none => .stuck
/-- unlike seats below n -/
def nuB (n : Nat) : (Nat → Bool) → List Nat → Bool
  | _, [] => true
  | x, s :: r => (Nat.blt s n && !x s) && nuB n (updB x s) r
theorem nu_loop (k n : Nat) (hn : 0 < n) (a0 : Option D) (st : Store) : ∀ (r : List Nat) (x : Nat → Bool) (a3 : Option D), nuB n x r = true →
    ∃ e st', forL (nuF k) (r.map natD) [a0, some (natD n), some (.loc st.length), a3] (st ++ [nuC n x]) = .ok (.nx e) (st ++ st')
  | [], x, a3, h => ⟨_, _, rfl⟩
  | s :: r, x, a3, h => by
    simp only [nuB, Bool.and_eq_true, Bool.not_eq_true'] at h
    obtain ⟨⟨h1, h2⟩, h3⟩ := h
    have hs : s < n := Nat.le_of_ble_eq_true h1
    obtain ⟨e, st', ih⟩ := nu_loop k n hn a0 st r (updB x s) (some (natD s)) h3
    refine ⟨e, st', ?_⟩
    have t : nuL = .seq (.ite (.or (.not (.call 1 (.cons (.var 3) (.cons (.cst (.int 0)) (.cons (.bin .sub (.var 1) (.cst (.int 1))) .nil))))) (.ix (.var 2) (.var 3))) (.seq (.ret (.cst (.bl false))) .nil) .nil) (.seq (.setIx (.var 2) (.var 3) (.cst (.bl true))) .nil) := by kernel_rfl
    have w : callF k00.T (k + 2) 1 [natD s, .int 0, natD (n - 1)] (st ++ [nuC n x]) = .ok (.bl true) (st ++ [nuC n x]) := by
      have := within1 k s 0 (n - 1) (st ++ [nuC n x])
      rw [Nat.ble_eq_true_of_le (Nat.zero_le s), Nat.ble_eq_true_of_le (show s ≤ n - 1 by omega)] at this
      exact this
    have sb : opg (st ++ [nuC n x]) (binD .sub (natD n) (.int 1)) = .ok (natD (n - 1)) (st ++ [nuC n x]) := by
      show opg _ (some (.int (Int.ofNat n - 1))) = _
      have : Int.ofNat n - 1 = Int.ofNat (n - 1) := by
        show (n : Int) - 1 = ((n - 1 : Nat) : Int)
        omega
      rw [this]
      try rfl
    have ri : ∀ st, resolve st (.int 1) = .int 1 := fun st => rfl
    have rc : resolve (st ++ [nuC n x]) (.loc st.length) = .lst ((List.range n).map fun t => .bl (x t)) := by simp [resolve, nuC]
    have ix : opg (st ++ [nuC n x]) (ixD (.lst ((List.range n).map fun t => .bl (x t))) (natD s)) = .ok (.bl false) (st ++ [nuC n x]) := by
      have : ixD (.lst ((List.range n).map fun t => .bl (x t))) (natD s) = some (.bl (x s)) := by
        show ((idx ((List.range n).map fun t => D.bl (x t)).length (.ofNat s)).bind _ : Option D) = _
        have : idx ((List.range n).map fun t => D.bl (x t)).length (.ofNat s) = some s := by simp [idx, hs]
        rw [this]
        exact rgM n x s hs
      rw [this, h2]
      try rfl
    have es : ∀ st, esc st (.bl true) = .ok (.bl true) st := fun st => rfl
    have wr1 : wr (st ++ [nuC n x]) (.loc st.length) (putIx (natD s) (.bl true)) = some (st ++ [nuC n (updB x s)]) := by
      have p : putIx (natD s) (.bl true) (.lst ((List.range n).map fun t => .bl (x t))) = some (.lst ((List.range n).map fun t => .bl (updB x s t))) := by
        show (idx ((List.range n).map fun t => D.bl (x t)).length (.ofNat s)).map (fun j => D.lst (((List.range n).map fun t => D.bl (x t)).set j (.bl true))) = _
        have : idx ((List.range n).map fun t => D.bl (x t)).length (.ofNat s) = some s := by simp [idx, hs]
        rw [this, Option.map_some, nu_set hs]
      simp only [wr, pg, nuC, p, Option.map_some, ps]
    have c : evE (callF k00.T (k + 2)) (.or (.not (.call 1 (.cons (.var 3) (.cons (.cst (.int 0)) (.cons (.bin .sub (.var 1) (.cst (.int 1))) .nil))))) (.ix (.var 2) (.var 3))) [a0, some (natD n), some (.loc st.length), some (natD s)] (st ++ [nuC n x]) = .ok (.bl false) (st ++ [nuC n x]) := by
      simp only [evE, evL, List.getElem?_cons_zero, List.getElem?_cons_succ, ok_bind, rn_is, ri, sb, callE, w, rb_is, truth, Option.map_some, opt_some, Bool.not_true, rc, ix]
    have f : nuF k (natD s) [a0, some (natD n), some (.loc st.length), a3] (st ++ [nuC n x]) = .ok (.nx [a0, some (natD n), some (.loc st.length), some (natD s)]) (st ++ [nuC n (updB x s)]) := by
      show evS (callF k00.T (k + 2)) nuL [a0, some (natD n), some (.loc st.length), some (natD s)] (st ++ [nuC n x]) = _
      rw [t, sqS (iteF c)]
      simp only [evS, evE, List.getElem?_cons_zero, List.getElem?_cons_succ, ok_bind, es, wr1]
    rw [List.map_cons, forL, f]
    exact ih
theorem numbering4 {n : Nat} (h : Sz n) (k : Nat) {r : List Nat} (hl : r.length = n) (hr : nuB n (fun _ => false) r = true) (st : Store) : callF k00.T (k + 3) 4 [.tup (r.map natD), natD n] st = .ok (.bl true) st := by
  have T : k00.T[4]? = some k00.f4 := rfl
  have st0 : start 4 [.tup (r.map natD), natD n] = [some (.tup (r.map natD)), some (natD n), none, none] := rfl
  have f1 : k00.f4.keep = false := rfl
  have f2 : k00.f4.ps = 2 := rfl
  have f3 : k00.f4.sl = 4 := rfl
  have b : k00.f4.body = .seq (.ite (.or (.not (.call 2 (.cons (.var 0) .nil))) (.cmp .ne (.prim .len (.cons (.var 0) .nil)) (.var 1))) (.seq (.ret (.cst (.bl false))) .nil) .nil) (.seq (.new 2 (.bin .mul (.lst (.cons (.cst (.bl false)) .nil)) (.var 1))) (.seq (.for (.var 3) (.var 0) nuL) (.seq (.ret (.cst (.bl true))) .nil))) := by kernel_rfl
  have h2 : callF k00.T (k + 2) 2 [.tup (r.map natD)] st = .ok (.bl true) st := by kernel_rfl
  have ln : opg st (primD .len [.tup (r.map natD)]) = .ok (natD n) st := by
    have : primD .len [.tup (r.map natD)] = some (.int (.ofNat (r.map natD).length)) := rfl
    rw [this, List.length_map, hl]
    try rfl
  have ne : cmpD .ne (natD n) (natD n) = some false := by
    show some (!ieq (.ofNat n) (.ofNat n)) = _
    rw [ieq_self]
    try rfl
  have s1 : evE (callF k00.T (k + 2)) (.or (.not (.call 2 (.cons (.var 0) .nil))) (.cmp .ne (.prim .len (.cons (.var 0) .nil)) (.var 1))) [some (.tup (r.map natD)), some (natD n), none, none] st = .ok (.bl false) st := by
    simp only [evE, evL, List.getElem?_cons_zero, List.getElem?_cons_succ, ok_bind, List.map_cons, List.map_nil, rn_is, rt_is, callE, h2, rb_is, truth, Option.map_some, opt_some, Bool.not_true, ln, ne]
  have s2 : evS (callF k00.T (k + 2)) (.new 2 (.bin .mul (.lst (.cons (.cst (.bl false)) .nil)) (.var 1))) [some (.tup (r.map natD)), some (natD n), none, none] st = .ok (.nx [some (.tup (r.map natD)), some (natD n), some (.loc st.length), none]) (st ++ [nuC n (fun _ => false)]) := by
    rcases h.cases with rfl | rfl | rfl | rfl | rfl <;> kernel_rfl
  obtain ⟨e, st', lp⟩ := nu_loop k n (by have := h.1; omega) (some (.tup (r.map natD))) st r (fun _ => false) none hr
  have s3 : evS (callF k00.T (k + 2)) (.for (.var 3) (.var 0) nuL) [some (.tup (r.map natD)), some (natD n), some (.loc st.length), none] (st ++ [nuC n (fun _ => false)]) = .ok (.nx e) (st ++ st') := lp
  rw [callF]
  simp only [T, runFn, f1, f2, f3, b, List.length_cons, List.length_nil, Nat.reduceAdd, if_true, st0]
  rw [sqS (iteF s1), sqS s2, sqS s3]
  simp [evS, evE, ok_bind, Py.fin]
def orS (a : Nat) : Nat → Nat → List Nat → Nat
  | _, m, [] => m
  | c, m, s :: r => orS a (c + 1) (match Nat.beq (Nat.land (a / 2 ^ c) 1) 1 with
    | true => Nat.lor m (2 ^ s)
    | false => m) r
theorem ble0 (c : Nat) : Nat.ble 0 c = true := Nat.ble_eq_true_of_le (Nat.zero_le c)
theorem shr_is (a c : Nat) : binD .shr (natD a) (natD c) = some (natD (a / 2 ^ c)) := by
  show ((if Nat.ble 0 c = true then some (Int.ofNat a / 2 ^ c) else none).map D.int) = _
  rw [ble0, if_pos rfl]
  have : (a : Int) / 2 ^ c = ((a / 2 ^ c : Nat) : Int) := by simp
  exact congrArg (fun z => some (D.int z)) this
theorem shl_is (s : Nat) (h : s ≤ 1000) : binD .shl (.int 1) (natD s) = some (natD (2 ^ s)) := by
  show ((if (Nat.ble 0 s && Nat.ble s 1000 && sml 1) = true then some (1 * (2 : Int) ^ s) else none).map D.int) = _
  have : (Nat.ble 0 s && Nat.ble s 1000 && sml 1) = true := by
    rw [ble0, Nat.ble_eq_true_of_le h]
    try rfl
  rw [this, if_pos rfl]
  have : 1 * (2 : Int) ^ s = ((2 ^ s : Nat) : Int) := by simp
  exact congrArg (fun z => some (D.int z)) this
def movL : Sm := match k00.f13.body with | .seq _ (.seq (.for _ _ b) _) => b | s => s
theorem mov_step (cf : CallF) (a c m s : Nat) (a1 : Option D) (hs : s ≤ 1000) (st : Store) : evS cf movL [some (natD a), a1, some (natD m), some (natD c), some (natD s)] st = .ok (.nx [some (natD a), a1, some (natD (match Nat.beq (Nat.land (a / 2 ^ c) 1) 1 with
    | true => Nat.lor m (2 ^ s)
    | false => m)), some (natD c), some (natD s)]) st := by
  have t : movL = .seq (.ite (.cmp .eq (.bin .band (.bin .shr (.var 0) (.var 3)) (.cst (.int 1))) (.cst (.int 1))) (.seq (.aug 2 .bor (.bin .shl (.cst (.int 1)) (.var 4))) .nil) .nil) .nil := by kernel_rfl
  have ri : ∀ st, resolve st (.int 1) = .int 1 := fun st => rfl
  have og : ∀ st m, opg st (some (natD m)) = .ok (natD m) st := fun st m => rfl
  have bd : ∀ x, binD .band (natD x) (.int 1) = some (natD (Nat.land x 1)) := fun x => rfl
  have eq : ∀ x, cmpD .eq (natD x) (.int 1) = some (Nat.beq x 1) := fun x => rfl
  have au : augD .bor (natD m) (natD (2 ^ s)) = some (natD (Nat.lor m (2 ^ s))) := rfl
  rw [t]
  simp only [evS, evE, List.getElem?_cons_zero, List.getElem?_cons_succ, ok_bind, rn_is, ri, shr_is, og, bd, eq, Option.map_some, opt_some, rb_is, truth]
  cases Nat.beq (Nat.land (a / 2 ^ c) 1) 1 with
  | false => rfl
  | true =>
    simp only [shl_is s hs, og, ok_bind, rn_is, au, opt_some]
    try rfl
def movF (cf : CallF) : D → Env → Store → Out Fl := fun x env st => match setTg (.tup (.cons (.var 3) (.cons (.var 4) .nil))) x env with
  | some env' => evS cf movL env' st
  | .none => .stuck
theorem mov_loop (cf : CallF) (a : Nat) (a1 : Option D) (st : Store) : ∀ (r : List Nat) (c m : Nat) (a3 a4 : Option D), (∀ s ∈ r, s ≤ 1000) → ∃ e, forL (movF cf) (enumD (.ofNat c) (r.map natD)) [some (natD a), a1, some (natD m), a3, a4] st = .ok (.nx (some (natD a) :: a1 :: some (natD (orS a c m r)) :: e)) st
  | [], c, m, a3, a4, h => ⟨[a3, a4], rfl⟩
  | s :: r, c, m, a3, a4, h => by
    obtain ⟨e, ih⟩ := mov_loop cf a a1 st r (c + 1) (match Nat.beq (Nat.land (a / 2 ^ c) 1) 1 with
      | true => Nat.lor m (2 ^ s)
      | false => m) (some (natD c)) (some (natD s)) (fun s hs => h s (List.mem_cons_of_mem _ hs))
    refine ⟨e, ?_⟩
    have f : movF cf (.tup [natD c, natD s]) [some (natD a), a1, some (natD m), a3, a4] st = evS cf movL [some (natD a), a1, some (natD m), some (natD c), some (natD s)] st := rfl
    show forL (movF cf) (.tup [natD c, natD s] :: enumD (.ofNat (c + 1)) (r.map natD)) _ st = _
    rw [forL, f, mov_step cf a c m s a1 (h s List.mem_cons_self) st]
    exact ih
theorem moved13 (k a : Nat) (r : List Nat) (h : ∀ s ∈ r, s ≤ 1000) (st : Store) : callF k00.T (k + 1) 13 [natD a, .tup (r.map natD)] st = .ok (natD (orS a 0 0 r)) st := by
  have T : k00.T[13]? = some k00.f13 := rfl
  have st0 : start 5 [natD a, .tup (r.map natD)] = [some (natD a), some (.tup (r.map natD)), none, none, none] := rfl
  have b : k00.f13.body = .seq (.set (.var 2) (.cst (.int 0))) (.seq (.for (.tup (.cons (.var 3) (.cons (.var 4) .nil))) (.enumE (.var 1)) movL) (.seq (.ret (.var 2)) .nil)) := by kernel_rfl
  have f1 : k00.f13.keep = true := rfl
  have f2 : k00.f13.ps = 2 := rfl
  have f3 : k00.f13.sl = 5 := rfl
  have s1 : evS (callF k00.T k) (.set (.var 2) (.cst (.int 0))) [some (natD a), some (.tup (r.map natD)), none, none, none] st = .ok (.nx [some (natD a), some (.tup (r.map natD)), some (natD 0), none, none]) st := rfl
  obtain ⟨e, lp⟩ := mov_loop (callF k00.T k) a (some (.tup (r.map natD))) st r 0 0 none none h
  have s2 : evS (callF k00.T k) (.for (.tup (.cons (.var 3) (.cons (.var 4) .nil))) (.enumE (.var 1)) movL) [some (natD a), some (.tup (r.map natD)), some (natD 0), none, none] st = .ok (.nx (some (natD a) :: some (.tup (r.map natD)) :: some (natD (orS a 0 0 r)) :: e)) st := lp
  rw [callF]
  simp only [T, runFn, f1, f2, f3, b, List.length_cons, List.length_nil, Nat.reduceAdd, if_true, st0]
  rw [sqS s1, sqS s2]
  try rfl
theorem moved32 {n a : Nat} (h : Sz n) (ha : a < 2 ^ n) (k : Nat) {r : List Nat} (hl : r.length = n) (hr : nuB n (fun _ => false) r = true) (hs : ∀ s ∈ r, s ≤ 1000) (st : Store) : callF k00.T (k + 5) 32 [natD n, natD a, .tup (r.map natD)] st = .ok (natD (orS a 0 0 r)) st := by
  have T : k00.T[32]? = some k00.f32 := rfl
  have st0 : start 3 [natD n, natD a, .tup (r.map natD)] = [some (natD n), some (natD a), some (.tup (r.map natD))] := rfl
  have c1 : ∀ st, callF k00.T (k + 4) 14 [natD n] st = .ok .none st := fun st => cnt14 h (k + 1) st
  have c2 : ∀ t st, callF k00.T (k + 4) 15 [natD n, natD a, t] st = .ok .none st := fun t st => chk15 h k a t st ha
  have c3 : ∀ st, callF k00.T (k + 4) 4 [.tup (r.map natD), natD n] st = .ok (.bl true) st := fun st => numbering4 h (k + 1) hl hr st
  have c4 : ∀ st, callF k00.T (k + 4) 13 [natD a, .tup (r.map natD)] st = .ok (natD (orS a 0 0 r)) st := fun st => moved13 (k + 3) a r hs st
  rw [callF]
  simp only [T, runFn, k00.f32, List.length_cons, List.length_nil, Nat.reduceAdd, if_true, evS, st0, evE, evL, List.getElem?_cons_zero, List.getElem?_cons_succ, ok_bind, callE, c1, c2, c3, c4, rb_is, truth, Option.map_some, opt_some, Bool.not_true]
/-- the or of powers is their sum -/
def bt (a k : Nat) : Bool := Nat.beq (a / 2 ^ k % 2) 1
def selN (a : Nat) : Nat → List Nat → List Nat
  | _, [] => []
  | c, s :: r => match Nat.beq (Nat.land (a / 2 ^ c) 1) 1 with
    | true => s :: selN a (c + 1) r
    | false => selN a (c + 1) r
theorem or_all : ((List.range 64).all fun m => (List.range 6).all fun s => bt m s || ((Nat.beq (Nat.lor m (2 ^ s)) (m + 2 ^ s) && Nat.blt (Nat.lor m (2 ^ s)) 64) && (List.range 6).all fun k => Nat.beq k s || (bt (Nat.lor m (2 ^ s)) k == bt m k))) = true := by decide +kernel
theorem or_is {m s : Nat} (hm : m < 64) (hs : s < 6) (h : bt m s = false) : Nat.lor m (2 ^ s) = m + 2 ^ s ∧ Nat.lor m (2 ^ s) < 64 ∧ ∀ k, k < 6 → k ≠ s → bt (Nat.lor m (2 ^ s)) k = bt m k := by
  have := List.all_eq_true.mp (List.all_eq_true.mp or_all m (List.mem_range.mpr hm)) s (List.mem_range.mpr hs)
  rw [h] at this
  simp only [Bool.false_or, Bool.and_eq_true] at this
  refine ⟨Nat.eq_of_beq_eq_true this.1.1, Nat.le_of_ble_eq_true this.1.2, fun k hk hne => ?_⟩
  have := List.all_eq_true.mp this.2 k (List.mem_range.mpr hk)
  have z : Nat.beq k s = false := Bool.eq_false_iff.mpr fun e => hne (Nat.eq_of_beq_eq_true e)
  rw [z, Bool.false_or] at this
  exact eq_of_beq this
theorem orS_sum (a : Nat) : ∀ (r : List Nat) (c m : Nat), m < 64 → (∀ s ∈ r, s < 6 ∧ bt m s = false) → r.Nodup → orS a c m r = m + sumP (selN a c r)
  | [], c, m, _, _, _ => rfl
  | s :: r, c, m, hm, h, nd => by
    obtain ⟨n1, n2⟩ := List.nodup_cons.mp nd
    obtain ⟨h1, h2⟩ := h s List.mem_cons_self
    obtain ⟨o1, o2, o3⟩ := or_is hm h1 h2
    simp only [orS, selN]
    cases Nat.beq (Nat.land (a / 2 ^ c) 1) 1 with
    | false => exact orS_sum a r (c + 1) m hm (fun t ht => h t (List.mem_cons_of_mem _ ht)) n2
    | true =>
      have := orS_sum a r (c + 1) (Nat.lor m (2 ^ s)) o2 (fun t ht => by
        obtain ⟨i1, i2⟩ := h t (List.mem_cons_of_mem _ ht)
        refine ⟨i1, ?_⟩
        rw [o3 t i1 (fun e => n1 (e ▸ ht)), i2]) n2
      simp only [sumP]
      rw [this, o1]
      omega
theorem sel_2 (r0 r1 : Nat) : (List.range 4).map (fun a => selN a 0 [r0, r1]) = (List.range 4).map (fun a => (cellN 2 a).map fun k => [r0, r1].getD k 0) := by kernel_rfl
theorem sel_3 (r0 r1 r2 : Nat) : (List.range 8).map (fun a => selN a 0 [r0, r1, r2]) = (List.range 8).map (fun a => (cellN 3 a).map fun k => [r0, r1, r2].getD k 0) := by kernel_rfl
theorem sel_4 (r0 r1 r2 r3 : Nat) : (List.range 16).map (fun a => selN a 0 [r0, r1, r2, r3]) = (List.range 16).map (fun a => (cellN 4 a).map fun k => [r0, r1, r2, r3].getD k 0) := by kernel_rfl
theorem sel_5 (r0 r1 r2 r3 r4 : Nat) : (List.range 32).map (fun a => selN a 0 [r0, r1, r2, r3, r4]) = (List.range 32).map (fun a => (cellN 5 a).map fun k => [r0, r1, r2, r3, r4].getD k 0) := by kernel_rfl
theorem sel_6 (r0 r1 r2 r3 r4 r5 : Nat) : (List.range 64).map (fun a => selN a 0 [r0, r1, r2, r3, r4, r5]) = (List.range 64).map (fun a => (cellN 6 a).map fun k => [r0, r1, r2, r3, r4, r5].getD k 0) := by kernel_rfl
theorem sel_is {n a : Nat} (h : Sz n) (ha : a < 2 ^ n) {r : List Nat} (hr : r.length = n) : selN a 0 r = (cellN n a).map fun k => r.getD k 0 := by
  rcases h.cases with rfl | rfl | rfl | rfl | rfl
  · match r, hr with
    | [r0, r1], _ => exact map_both (sel_2 r0 r1) (List.mem_range.mpr ha)
  · match r, hr with
    | [r0, r1, r2], _ => exact map_both (sel_3 r0 r1 r2) (List.mem_range.mpr ha)
  · match r, hr with
    | [r0, r1, r2, r3], _ => exact map_both (sel_4 r0 r1 r2 r3) (List.mem_range.mpr ha)
  · match r, hr with
    | [r0, r1, r2, r3, r4], _ => exact map_both (sel_5 r0 r1 r2 r3 r4) (List.mem_range.mpr ha)
  · match r, hr with
    | [r0, r1, r2, r3, r4, r5], _ => exact map_both (sel_6 r0 r1 r2 r3 r4 r5) (List.mem_range.mpr ha)
theorem mov_all : ([2, 3, 4, 5, 6].all fun n => (seatP n n).all fun r => nuB n (fun _ => false) r) = true := by decide +kernel
theorem nuB_is {n : Nat} : ∀ {r : List Nat} {x : Nat → Bool}, nuB n x r = true → r.Nodup ∧ ∀ s ∈ r, s < n ∧ x s = false
  | [], x, _ => ⟨List.nodup_nil, (fun _ h => nomatch h)⟩
  | s :: r, x, h => by
    simp only [nuB, Bool.and_eq_true, Bool.not_eq_true'] at h
    obtain ⟨i1, i2⟩ := nuB_is h.2
    refine ⟨List.nodup_cons.mpr ⟨fun hm => ?_, i1⟩, fun t ht => ?_⟩
    · have := (i2 s hm).2
      simp [updB] at this
    · rcases List.mem_cons.mp ht with rfl | ht
      · exact ⟨Nat.le_of_ble_eq_true h.1.1, h.1.2⟩
      · have := i2 t ht
        simp only [updB, Bool.or_eq_false_iff] at this
        exact ⟨this.1, this.2.2⟩
theorem mov_num {n : Nat} (h : Sz n) {r : List Nat} (hr : r ∈ seatP n n) : nuB n (fun _ => false) r = true := by
  have hn : n ∈ [2, 3, 4, 5, 6] := by rcases h.cases with rfl | rfl | rfl | rfl | rfl <;> simp
  exact List.all_eq_true.mp (List.all_eq_true.mp mov_all n hn) r hr
theorem mov_sum {n a : Nat} (h : Sz n) (ha : a < 2 ^ n) {r : List Nat} (hr : r ∈ seatP n n) : (∀ s ∈ r, s < 12) ∧ orS a 0 0 r = sumP ((cellN n a).map fun k => r.getD k 0) := by
  obtain ⟨h1, h2⟩ := nuB_is (mov_num h hr)
  have h6 := h.2
  refine ⟨fun s hs => by have := (h2 s hs).1; omega, ?_⟩
  rw [← sel_is h ha (seatP_len hr), orS_sum a r 0 0 (by decide) (fun s hs => ⟨by have := (h2 s hs).1; omega, by
    have := (h2 s hs).1
    have : s = 0 ∨ s = 1 ∨ s = 2 ∨ s = 3 ∨ s = 4 ∨ s = 5 := by omega
    rcases this with rfl | rfl | rfl | rfl | rfl | rfl <;> rfl⟩) h1, Nat.zero_add]
/-- a comprehension that takes a value of each -/
theorem mapf {cf : CallF} {src elt : Ex} {env : Env} {i : Nat} {l : List Nat} {f : Nat → Nat} {st : Store} (hs : srcL (evE cf src env st) = .ok (l.map natD) st)
    (hc : ∀ s ∈ l, ∀ st, evE cf elt (env.set i (some (natD s))) st = .ok (natD (f s)) st) (hl : l.length ≤ 4096) : evE cf (.comp elt [i] (.var i) src (.cst (.bl true))) env st = .ok (.lst ((l.map f).map natD)) st := by
  rw [evE_comp, hs]
  have e : ∀ (l : List Nat) (st : Store), (∀ s ∈ l, ∀ st, evE cf elt (env.set i (some (natD s))) st = .ok (natD (f s)) st) → compL (stepC cf elt [i] (.var i) (.cst (.bl true)) env) (l.map natD) st = .ok ((l.map f).map natD) st := fun l => by
    induction l with
    | nil => intro st _; rfl
    | cons x xs ih =>
      intro st h
      have e1 : setTg (.var i) (natD x) (wipe env [i]) = some (env.set i (some (natD x))) := by
        simp [setTg, natD, gl, wipe]
      have e2 : stepC cf elt [i] (.var i) (.cst (.bl true)) env (natD x) st = .ok (some (natD (f x))) st := by
        simp only [stepC, e1, evE, ok_bind, rb_is, truth, h x List.mem_cons_self]
        try rfl
      simp only [List.map_cons, compL, e2, ok_bind, ih st fun s hs => h s (List.mem_cons_of_mem _ hs)]
  have hn : ((l.map f).map natD).length ≤ sizeMax := by
    rw [List.length_map, List.length_map]
    have : sizeMax = 16777216 := rfl
    omega
  simp only [ok_bind, restC, e l st hc, Out.noexc, List.nil_append, hn, if_true]
end K0
end Py
end
section
set_option Elab.async false
set_option linter.all false
set_option maxRecDepth 100000
set_option maxHeartbeats 0
namespace Py
namespace K0
/-! ### the statement 5 -/
theorem l5 {n a b : Nat} (h : Sz n) (ha : a < 2 ^ n) (hb : b < 2 ^ n) {r : List Nat} (hr : r ∈ seatP n n) (a0 a1 a2 a7 a8 a9 a10 : Option D) (st : Store) :
    evS (callF k00.T 11) (lawS 5) [a0, a1, a2, some (natD n), some (natD a), some (natD b), some (.tup (r.map natD)), a7, a8, a9, a10] st = .ok (.nx [a0, a1, a2, some (natD n), some (natD a), some (natD b), some (.tup (r.map natD)), a7, a8, a9, a10]) st := by
  have t : lawS 5 = .ite (.or (.not (.call 51 (.cons (.var 3) (.cons (.var 4) (.cons (.var 5) .nil))))) (.not (.call 45 (.cons (.call 32 (.cons (.var 3) (.cons (.var 4) (.cons (.var 6) .nil)))) (.cons (.call 47 (.cons (.comp (.ix (.var 6) (.var 7)) [7] (.var 7) (.call 46 (.cons (.var 3) (.cons (.var 4) .nil))) (.cst (.bl true))) .nil)) .nil))))) (.seq (.ret (.cst (.bl false))) .nil) .nil := by kernel_rfl
  obtain ⟨m1, m2⟩ := mov_sum h ha hr
  have rlen := seatP_len hr
  have c51 : callF k00.T 11 51 [natD n, natD a, natD b] st = .ok (.bl true) st := two_is h ha hb 0 st
  have c32 : callF k00.T 11 32 [natD n, natD a, .tup (r.map natD)] st = .ok (natD (orS a 0 0 r)) st := moved32 h ha 6 rlen (mov_num h hr) (fun s hs => by have := m1 s hs; omega) st
  have c46 : callF k00.T 11 46 [natD n, natD a] st = .ok (.lst ((cellN n a).map natD)) st := by
    rw [← cells_nat]
    exact cells46 h 10 a st
  have src : srcL (evE (callF k00.T 11) (.call 46 (.cons (.var 3) (.cons (.var 4) .nil))) [a0, a1, a2, some (natD n), some (natD a), some (natD b), some (.tup (r.map natD)), a7, a8, a9, a10] st) = .ok ((cellN n a).map natD) st := by
    simp only [evE, evL, List.getElem?_cons_zero, List.getElem?_cons_succ, ok_bind, callE, c46]
    try rfl
  have hk : ∀ s ∈ cellN n a, s < r.length := fun s hs => by
    have := List.mem_range.mp (List.mem_filter.mp hs).1
    omega
  have cm := mapf (i := 7) (elt := .ix (.var 6) (.var 7)) (f := fun k => r.getD k 0) src (fun s hs st => by
    have x : ixD (.tup (r.map natD)) (natD s) = some (natD (r.getD s 0)) := by
      show ((idx (r.map natD).length (.ofNat s)).bind _ : Option D) = _
      simp [idx, hk s hs]
    have og : ∀ m, opg st (some (natD m)) = .ok (natD m) st := fun m => rfl
    simp only [evE, List.set_cons_succ, List.set_cons_zero, List.getElem?_cons_zero, List.getElem?_cons_succ, ok_bind, rt_is, rn_is, x, og]) (Nat.le_trans (cellN_len h) (by decide))
  have c47 : callF k00.T 11 47 [.lst (((cellN n a).map fun k => r.getD k 0).map natD)] st = .ok (natD (orS a 0 0 r)) st := by
    rw [m2]
    refine state_is 10 _ (fun m hm => ?_) ?_ st
    · obtain ⟨s, hs, rfl⟩ := List.mem_map.mp hm
      have := hk s hs
      refine m1 _ ?_
      rw [List.getD_eq_getElem?_getD, List.getElem?_eq_getElem this]
      exact List.getElem_mem this
    · rw [List.length_map]
      exact Nat.le_trans (cellN_len h) (by decide)
  rw [t]
  refine iteF (orF (notF ?_) (notF (callSame (d := natD (orS a 0 0 r)) (e := natD (orS a 0 0 r)) ?_ ?_ ?_)))
  · simp only [evE, evL, List.getElem?_cons_zero, List.getElem?_cons_succ, ok_bind, callE, c51]
  · simp only [evE, evL, List.getElem?_cons_zero, List.getElem?_cons_succ, ok_bind, callE, c32]
  · rw [evE, evL, cm]
    simp only [ok_bind, evL, callE, c47]
  · have := same_int 10 (.ofNat (orS a 0 0 r)) (.ofNat (orS a 0 0 r)) st
    rw [ieq_self] at this
    exact this
end K0
end Py
end
section
set_option Elab.async false
set_option linter.all false
set_option maxRecDepth 100000
set_option maxHeartbeats 1000000
namespace Py
namespace K0
/-! ### the draws of the states -/
theorem ris_of {hi : Nat} : ∀ {l : List Nat} {lo : Nat}, l.Pairwise (· < ·) → (∀ s ∈ l, lo ≤ s ∧ s ≤ hi) → risN hi lo l = true
  | [], lo, _, _ => rfl
  | a :: r, lo, h, b => by
    obtain ⟨h1, h2⟩ := List.pairwise_cons.mp h
    refine ris_cons.mpr ⟨b a List.mem_cons_self, ris_of h2 fun s hs => ⟨h1 s hs, (b s (List.mem_cons_of_mem _ hs)).2⟩⟩
theorem dedupI_len : ∀ l : List Int, (dedupI l).length ≤ l.length
  | [] => Nat.le_refl _
  | x :: xs => by
    have := dedupI_len xs
    simp only [dedupI]
    cases xs.any (fun y => ieq y x) with
    | true => simp only [List.length_cons]; omega
    | false => simp only [List.length_cons]; omega
theorem sortN_len (l : List Nat) : (sortN l).length ≤ l.length := by
  unfold sortN
  rw [List.length_map, (sortI_perm _).length_eq]
  have := dedupI_len (l.map Int.ofNat)
  rwa [List.length_map] at this
theorem sortN_pw (l : List Nat) : (sortN l).Pairwise (· < ·) := by
  unfold sortN
  have nd : (sortI (dedupI (l.map Int.ofNat))).Nodup := (sortI_perm _).nodup_iff.mpr (dedupI_nodup _)
  have pos : ∀ i ∈ sortI (dedupI (l.map Int.ofNat)), 0 ≤ i := fun i hi => by
    have hm : i ∈ l.map Int.ofNat := (dedupI_mem _ i).mp ((sortI_perm _).mem_iff.mp hi)
    obtain ⟨m, _, rfl⟩ := List.mem_map.mp hm
    exact Int.natCast_nonneg m
  have both := List.Pairwise.and (sortI_sorted (dedupI (l.map Int.ofNat))) nd
  rw [List.pairwise_map]
  refine List.Pairwise.imp_of_mem (fun {a b} ha hb hab => ?_) both
  have := pos a ha
  have := pos b hb
  have h1 := hab.1
  have h2 := hab.2
  omega
theorem sortN_ris {n : Nat} {l : List Nat} (hl : ∀ m ∈ l, m < 2 ^ n) : risN (lastN n) 0 (sortN l) = true :=
  ris_of (sortN_pw l) fun s hs => ⟨Nat.zero_le _, by
    have := hl s (sortN_mem hs)
    unfold lastN
    omega⟩
def drE : Ex := .call 44 (.cons (.var 2) (.cons (.prim .len (.cons (.call 49 (.cons (.var 3) .nil)) .nil)) .nil))
theorem dr_step {n : Nat} (h : Sz n) (l : Nat) (s : Int) (st : Store) (hs : st[l]? = some (drCell s)) (a0 a1 a4 a5 a6 a7 a8 a9 a10 : Option D) :
    ∃ d s', d < 2 ^ n ∧ evE (callF k00.T 11) drE [a0, a1, some (.loc l), some (natD n), a4, a5, a6, a7, a8, a9, a10] st = .ok (natD d) (st.set l (drCell s')) := by
  obtain ⟨d, s', hd, e⟩ := draw44 (k := 10) (m := 2 ^ n) hs (Nat.two_pow_pos n)
  refine ⟨d, s', hd, ?_⟩
  have le := lenAll h 10 3 [a0, a1, some (.loc l), some (natD n), a4, a5, a6, a7, a8, a9, a10] st rfl
  have el : evL (callF k00.T 11) (.cons (.var 2) (.cons (.prim .len (.cons (.call 49 (.cons (.var 3) .nil)) .nil)) .nil)) [a0, a1, some (.loc l), some (natD n), a4, a5, a6, a7, a8, a9, a10] st = .ok [.loc l, natD (2 ^ n)] st := evL2 rfl le
  rw [drE, evE, el]
  exact e
theorem st_same {st : Store} {l : Nat} {s : Int} (hs : st[l]? = some (drCell s)) : st.set l (drCell s) = st := List.ext_getElem? fun i => by
  by_cases h : l = i
  · subst h; rw [List.getElem?_set_self (List.getElem?_eq_some_iff.mp hs).1, hs]
  · rw [List.getElem?_set_ne h]
theorem dr_loop {n : Nat} (h : Sz n) (l : Nat) (a0 a1 a4 a5 a6 a7 a8 a9 a10 : Option D) : ∀ (src : List Nat) (s : Int) (st : Store), st[l]? = some (drCell s) →
    ∃ (vs : List Nat) (s' : Int), vs.length = src.length ∧ (∀ m ∈ vs, m < 2 ^ n) ∧ compL (stepC (callF k00.T 11) drE [7] (.var 7) (.cst (.bl true)) [a0, a1, some (.loc l), some (natD n), a4, a5, a6, a7, a8, a9, a10]) (src.map natD) st = .ok (vs.map natD) (st.set l (drCell s'))
  | [], s, st, hs => ⟨[], s, rfl, (fun _ h => nomatch h), by rw [st_same hs]; rfl⟩
  | x :: xs, s, st, hs => by
    obtain ⟨d, s1, hd, e⟩ := dr_step h l s st hs a0 a1 a4 a5 a6 (some (natD x)) a8 a9 a10
    obtain ⟨vs, s2, h1, h2, h3⟩ := dr_loop h l a0 a1 a4 a5 a6 a7 a8 a9 a10 xs s1 (st.set l (drCell s1)) (get_set hs)
    rw [set_same] at h3
    refine ⟨d :: vs, s2, by rw [List.length_cons, List.length_cons, h1], fun m hm => ?_, ?_⟩
    · rcases List.mem_cons.mp hm with rfl | hm
      · exact hd
      · exact h2 m hm
    · have e1 : setTg (.var 7) (natD x) (wipe [a0, a1, some (.loc l), some (natD n), a4, a5, a6, a7, a8, a9, a10] [7]) = some [a0, a1, some (.loc l), some (natD n), a4, a5, a6, some (natD x), a8, a9, a10] := rfl
      have e2 : ∀ st' env, evE (callF k00.T 11) (.cst (.bl true)) env st' = .ok (.bl true) st' := fun st' env => rfl
      have e3 : stepC (callF k00.T 11) drE [7] (.var 7) (.cst (.bl true)) [a0, a1, some (.loc l), some (natD n), a4, a5, a6, a7, a8, a9, a10] (natD x) st = .ok (some (natD d)) (st.set l (drCell s1)) := by
        simp only [stepC, e1, e2, ok_bind, rb_is, truth, e]
        try rfl
      simp only [List.map_cons, compL, e3, ok_bind, h3]
theorem rg10 : (List.range 10).map (fun c => primD .range1 [natD c]) = (List.range 10).map (fun c => some (.lst ((List.range c).map natD))) := by kernel_rfl
theorem l6 {n : Nat} (h : Sz n) (l : Nat) (s : Int) (st : Store) (hs : st[l]? = some (drCell s)) (a0 a1 a4 a5 a6 a7 a8 a9 a10 : Option D) :
    ∃ (S : List Nat) (s' : Int), S.length ≤ 9 ∧ risN (lastN n) 0 S = true ∧ evS (callF k00.T 11) (lawS 6) [a0, a1, some (.loc l), some (natD n), a4, a5, a6, a7, a8, a9, a10] st = .ok (.nx [a0, a1, some (.loc l), some (natD n), a4, a5, a6, a7, some (.tup (S.map natD)), a9, a10]) (st.set l (drCell s')) := by
  have t : lawS 6 = .set (.var 8) (.prim .tuple (.cons (.prim .sortedSet (.cons (.comp drE [7] (.var 7) (.prim .range1 (.cons (.call 44 (.cons (.var 2) (.cons (.cst (.int 10)) .nil))) .nil)) (.cst (.bl true))) .nil)) .nil)) := by kernel_rfl
  obtain ⟨c, s1, hc, e⟩ := draw44 (k := 10) (m := 10) hs (by decide)
  have rg := map_both rg10 (List.mem_range.mpr hc)
  have hs1 : (st.set l (drCell s1))[l]? = some (drCell s1) := get_set hs
  obtain ⟨vs, s2, h1, h2, h3⟩ := dr_loop h l a0 a1 a4 a5 a6 a7 a8 a9 a10 (List.range c) s1 (st.set l (drCell s1)) hs1
  rw [set_same] at h3
  rw [List.length_range] at h1
  refine ⟨sortN vs, s2, ?_, sortN_ris h2, ?_⟩
  · have := sortN_len vs
    omega
  have e0 : evE (callF k00.T 11) (.call 44 (.cons (.var 2) (.cons (.cst (.int 10)) .nil))) [a0, a1, some (.loc l), some (natD n), a4, a5, a6, a7, a8, a9, a10] st = .ok (natD c) (st.set l (drCell s1)) := e
  have src : srcL (evE (callF k00.T 11) (.prim .range1 (.cons (.call 44 (.cons (.var 2) (.cons (.cst (.int 10)) .nil))) .nil)) [a0, a1, some (.loc l), some (natD n), a4, a5, a6, a7, a8, a9, a10] st) = .ok ((List.range c).map natD) (st.set l (drCell s1)) := by
    have el : evL (callF k00.T 11) (.cons (.call 44 (.cons (.var 2) (.cons (.cst (.int 10)) .nil))) .nil) [a0, a1, some (.loc l), some (natD n), a4, a5, a6, a7, a8, a9, a10] st = .ok [natD c] (st.set l (drCell s1)) := by
      rw [evL, e0]
      try rfl
    rw [evE, el]
    simp only [ok_bind, List.map_cons, List.map_nil, rn_is, rg]
    try rfl
  have hn : (vs.map natD).length ≤ sizeMax := by
    have : sizeMax = 16777216 := rfl
    rw [List.length_map]
    omega
  have cm : evE (callF k00.T 11) (.comp drE [7] (.var 7) (.prim .range1 (.cons (.call 44 (.cons (.var 2) (.cons (.cst (.int 10)) .nil))) .nil)) (.cst (.bl true))) [a0, a1, some (.loc l), some (natD n), a4, a5, a6, a7, a8, a9, a10] st = .ok (.lst (vs.map natD)) (st.set l (drCell s2)) := by
    rw [evE_comp, src]
    simp only [ok_bind, restC, h3, Out.noexc, List.nil_append, hn, if_true]
  have ss := sset_nat (l := vs) (by omega)
  have es : evE (callF k00.T 11) (.prim .sortedSet (.cons (.comp drE [7] (.var 7) (.prim .range1 (.cons (.call 44 (.cons (.var 2) (.cons (.cst (.int 10)) .nil))) .nil)) (.cst (.bl true))) .nil)) [a0, a1, some (.loc l), some (natD n), a4, a5, a6, a7, a8, a9, a10] st = .ok (.lst ((sortN vs).map natD)) (st.set l (drCell s2)) := by
    have el : evL (callF k00.T 11) (.cons (.comp drE [7] (.var 7) (.prim .range1 (.cons (.call 44 (.cons (.var 2) (.cons (.cst (.int 10)) .nil))) .nil)) (.cst (.bl true))) .nil) [a0, a1, some (.loc l), some (natD n), a4, a5, a6, a7, a8, a9, a10] st = .ok [.lst (vs.map natD)] (st.set l (drCell s2)) := by
      rw [evL, cm]
      try rfl
    rw [evE, el]
    simp only [ok_bind, List.map_cons, List.map_nil, rl_is, ss]
    try rfl
  have et : evE (callF k00.T 11) (.prim .tuple (.cons (.prim .sortedSet (.cons (.comp drE [7] (.var 7) (.prim .range1 (.cons (.call 44 (.cons (.var 2) (.cons (.cst (.int 10)) .nil))) .nil)) (.cst (.bl true))) .nil)) .nil)) [a0, a1, some (.loc l), some (natD n), a4, a5, a6, a7, a8, a9, a10] st = .ok (.tup ((sortN vs).map natD)) (st.set l (drCell s2)) := by
    have el : evL (callF k00.T 11) (.cons (.prim .sortedSet (.cons (.comp drE [7] (.var 7) (.prim .range1 (.cons (.call 44 (.cons (.var 2) (.cons (.cst (.int 10)) .nil))) .nil)) (.cst (.bl true))) .nil)) .nil) [a0, a1, some (.loc l), some (natD n), a4, a5, a6, a7, a8, a9, a10] st = .ok [.lst ((sortN vs).map natD)] (st.set l (drCell s2)) := by
      rw [evL, es]
      try rfl
    rw [evE, el]
    try rfl
  rw [t, evS, et]
  try rfl
end K0
end Py
end
section
set_option Elab.async false
set_option linter.all false
set_option maxRecDepth 100000
set_option maxHeartbeats 1000000
namespace Py
namespace K0
/-! ### counts of the states below -/
def bitB (s k : Nat) : Bool := Nat.beq (Nat.land (s / 2 ^ k) 1) 1
def CL (n : Nat) (x : Nat → Nat) : List D := (List.range (2 ^ n)).map fun s => natD (x s)
def updN (x : Nat → Nat) (s v : Nat) : Nat → Nat := fun t => match Nat.beq t s with
  | true => v
  | false => x t
theorem updN_same {x : Nat → Nat} {s v : Nat} : updN x s v s = v := by
  unfold updN
  rw [Nat.beq_refl]
theorem updN_ne {x : Nat → Nat} {s v t : Nat} (h : t ≠ s) : updN x s v t = x t := by
  unfold updN
  cases e : Nat.beq t s with
  | true => exact absurd (Nat.eq_of_beq_eq_true e) h
  | false => rfl
theorem CL_len {n : Nat} {x : Nat → Nat} : (CL n x).length = 2 ^ n := by simp [CL]
theorem CL_get {n : Nat} {x : Nat → Nat} {s : Nat} (h : s < 2 ^ n) : (CL n x)[s]? = some (natD (x s)) := by simp [CL, h]
theorem CL_congr {n : Nat} {x y : Nat → Nat} (h : ∀ s, s < 2 ^ n → x s = y s) : CL n x = CL n y := List.map_congr_left fun s hs => by rw [h s (List.mem_range.mp hs)]
theorem CL_set {n : Nat} {x : Nat → Nat} {s v : Nat} (h : s < 2 ^ n) : (CL n x).set s (natD v) = CL n (updN x s v) := by
  refine List.ext_getElem? fun i => ?_
  by_cases e : s = i
  · subst e
    rw [List.getElem?_set_self (by rw [CL_len]; exact h), CL_get h, updN_same]
  · rw [List.getElem?_set_ne e]
    by_cases hi : i < 2 ^ n
    · rw [CL_get hi, CL_get hi, updN_ne (Ne.symm e)]
    · rw [List.getElem?_eq_none (by rw [CL_len]; omega), List.getElem?_eq_none (by rw [CL_len]; omega)]
def clC (n : Nat) (x : Nat → Nat) : Cell := ⟨false, .lst (CL n x)⟩
theorem put_is {n : Nat} {x : Nat → Nat} {s v : Nat} (h : s < 2 ^ n) : putIx (natD s) (natD v) (.lst (CL n x)) = some (.lst (CL n (updN x s v))) := by
  show (idx (CL n x).length (.ofNat s)).map (fun j => D.lst ((CL n x).set j (natD v))) = _
  have : idx (CL n x).length (.ofNat s) = some s := by simp [idx, CL_len, h]
  rw [this, Option.map_some, CL_set h]
theorem wr_cl {st : Store} {n : Nat} {x : Nat → Nat} {s v : Nat} (h : s < 2 ^ n) : wr (st ++ [clC n x]) (.loc st.length) (putIx (natD s) (natD v)) = some (st ++ [clC n (updN x s v)]) := by
  simp only [wr, pg, clC, put_is h, Option.map_some, ps]
theorem res_cl {st : Store} {n : Nat} {x : Nat → Nat} : resolve (st ++ [clC n x]) (.loc st.length) = .lst (CL n x) := by simp [resolve, clC]
theorem ix_cl {n : Nat} {x : Nat → Nat} {s : Nat} (h : s < 2 ^ n) : ixD (.lst (CL n x)) (natD s) = some (natD (x s)) := by
  show ((idx (CL n x).length (.ofNat s)).bind _ : Option D) = _
  have : idx (CL n x).length (.ofNat s) = some s := by simp [idx, CL_len, h]
  rw [this]
  exact CL_get h
def cuB1 : Sm := match k00.f35.body with | .seq _ (.seq (.for _ _ b) _) => b | s => s
def cuB2 : Sm := match k00.f35.body with | .seq _ (.seq _ (.seq (.for _ _ (.seq (.for _ _ b) _)) _)) => b | s => s
def cuF1 (cf : CallF) : D → Env → Store → Out Fl := fun x env st => match setTg (.var 3) x env with
  | some env' => evS cf cuB1 env' st
  | .none => .stuck
def cuF2 (cf : CallF) : D → Env → Store → Out Fl := fun x env st => match setTg (.var 3) x env with
  | some env' => evS cf cuB2 env' st
  | .none => .stuck
def cuB3 : Sm := .seq (.for (.var 3) (.prim .range1 (.cons (.bin .shl (.cst (.int 1)) (.var 0)) .nil)) cuB2) .nil
def cuF3 (cf : CallF) : D → Env → Store → Out Fl := fun x env st => match setTg (.var 4) x env with
  | some env' => evS cf cuB3 env' st
  | .none => .stuck
/-- the marks -/
def markN : (Nat → Nat) → List Nat → (Nat → Nat)
  | x, [] => x
  | x, s :: r => markN (updN x s 1) r
theorem cu_loop1 (cf : CallF) (n : Nat) (a0 a1 a4 : Option D) (st : Store) : ∀ (l : List Nat) (x : Nat → Nat) (a3 : Option D), (∀ s ∈ l, s < 2 ^ n) →
    ∃ b3, forL (cuF1 cf) (l.map natD) [a0, a1, some (.loc st.length), a3, a4] (st ++ [clC n x]) = .ok (.nx [a0, a1, some (.loc st.length), b3, a4]) (st ++ [clC n (markN x l)])
  | [], x, a3, h => ⟨a3, rfl⟩
  | s :: r, x, a3, h => by
    obtain ⟨b3, ih⟩ := cu_loop1 cf n a0 a1 a4 st r (updN x s 1) (some (natD s)) (fun t ht => h t (List.mem_cons_of_mem _ ht))
    refine ⟨b3, ?_⟩
    have t : cuB1 = .seq (.setIx (.var 2) (.var 3) (.cst (.int 1))) .nil := by kernel_rfl
    have es : ∀ st, esc st (.int 1) = .ok (.int 1) st := fun st => rfl
    have w : wr (st ++ [clC n x]) (.loc st.length) (putIx (natD s) (.int 1)) = some (st ++ [clC n (updN x s 1)]) := wr_cl (v := 1) (h s List.mem_cons_self)
    have f : cuF1 cf (natD s) [a0, a1, some (.loc st.length), a3, a4] (st ++ [clC n x]) = .ok (.nx [a0, a1, some (.loc st.length), some (natD s), a4]) (st ++ [clC n (updN x s 1)]) := by
      show evS cf cuB1 [a0, a1, some (.loc st.length), some (natD s), a4] (st ++ [clC n x]) = _
      rw [t]
      simp only [evS, evE, List.getElem?_cons_zero, List.getElem?_cons_succ, ok_bind, es, w]
    rw [List.map_cons, forL, f]
    exact ih
def passX (k : Nat) (x : Nat → Nat) : Nat → Nat := fun s => match bitB s k with
  | true => x s + x (Nat.xor s (2 ^ k))
  | false => x s
theorem bits_all : ((List.range 64).all fun m => (List.range 6).all fun k => !bitB m k || (Nat.blt (Nat.xor m (2 ^ k)) m && !bitB (Nat.xor m (2 ^ k)) k)) = true := by decide +kernel
theorem bits_is {m k : Nat} (hm : m < 64) (hk : k < 6) (h : bitB m k = true) : Nat.xor m (2 ^ k) < m ∧ bitB (Nat.xor m (2 ^ k)) k = false := by
  have := List.all_eq_true.mp (List.all_eq_true.mp bits_all m (List.mem_range.mpr hm)) k (List.mem_range.mpr hk)
  rw [h] at this
  simp only [Bool.not_true, Bool.false_or, Bool.and_eq_true, Bool.not_eq_true'] at this
  exact ⟨Nat.le_of_ble_eq_true this.1, this.2⟩
theorem cu_step2 (cf : CallF) (n k s : Nat) (x : Nat → Nat) (hs : s < 2 ^ n) (hx : bitB s k = true → Nat.xor s (2 ^ k) < 2 ^ n) (hk : k < 6) (a0 a1 a3 : Option D) (st : Store) :
    cuF2 cf (natD s) [a0, a1, some (.loc st.length), a3, some (natD k)] (st ++ [clC n x]) = .ok (.nx [a0, a1, some (.loc st.length), some (natD s), some (natD k)]) (st ++ [clC n (match bitB s k with
      | true => updN x s (x s + x (Nat.xor s (2 ^ k)))
      | false => x)]) := by
  have t : cuB2 = .seq (.ite (.cmp .eq (.bin .band (.bin .shr (.var 3) (.var 4)) (.cst (.int 1))) (.cst (.int 1))) (.seq (.augIx (.var 2) (.var 3) .add (.ix (.var 2) (.bin .bxor (.var 3) (.bin .shl (.cst (.int 1)) (.var 4))))) .nil) .nil) .nil := by kernel_rfl
  have ri : ∀ st, resolve st (.int 1) = .int 1 := fun st => rfl
  have og : ∀ st m, opg st (some (natD m)) = .ok (natD m) st := fun st m => rfl
  have bd : ∀ x, binD .band (natD x) (.int 1) = some (natD (Nat.land x 1)) := fun x => rfl
  have eq : ∀ x, cmpD .eq (natD x) (.int 1) = some (Nat.beq x 1) := fun x => rfl
  have bx : ∀ a b, binD .bxor (natD a) (natD b) = some (natD (Nat.xor a b)) := fun a b => rfl
  have au : ∀ a b, augD .add (natD a) (natD b) = some (natD (a + b)) := fun a b => rfl
  have c : evE cf (.cmp .eq (.bin .band (.bin .shr (.var 3) (.var 4)) (.cst (.int 1))) (.cst (.int 1))) [a0, a1, some (.loc st.length), some (natD s), some (natD k)] (st ++ [clC n x]) = .ok (.bl (bitB s k)) (st ++ [clC n x]) := by
    simp only [evE, List.getElem?_cons_zero, List.getElem?_cons_succ, ok_bind, rn_is, ri, shr_is, og, bd, eq, Option.map_some, opt_some]
    try rfl
  show evS cf cuB2 [a0, a1, some (.loc st.length), some (natD s), some (natD k)] (st ++ [clC n x]) = _
  rw [t, evS, evS, c]
  cases hb : bitB s k with
  | false => rfl
  | true =>
    have la : lstAt (.loc st.length) (natD s) (st ++ [clC n x]) = .ok (natD (x s)) (st ++ [clC n x]) := by
      show (match (st ++ [clC n x])[st.length]? with | some ⟨false, .lst ds⟩ => opt (st ++ [clC n x]) ds[s]? | _ => .stuck) = _
      rw [pg]
      show opt _ (CL n x)[s]? = _
      rw [CL_get hs]
      try rfl
    have w := wr_cl (st := st) (n := n) (x := x) (v := x s + x (Nat.xor s (2 ^ k))) hs
    have e1 : evS cf (.augIx (.var 2) (.var 3) .add (.ix (.var 2) (.bin .bxor (.var 3) (.bin .shl (.cst (.int 1)) (.var 4))))) [a0, a1, some (.loc st.length), some (natD s), some (natD k)] (st ++ [clC n x]) = .ok (.nx [a0, a1, some (.loc st.length), some (natD s), some (natD k)]) (st ++ [clC n (updN x s (x s + x (Nat.xor s (2 ^ k))))]) := by
      simp only [evS, evE, List.getElem?_cons_zero, List.getElem?_cons_succ, ok_bind, la, rn_is, ri, shl_is k (by omega), og, bx, res_cl, ix_cl (hx hb), au, opt_some, w]
    simp only [ok_bind, rb_is, truth]
    rw [sqS e1]
    try rfl
theorem cu_loop2 (cf : CallF) (n k : Nat) (hn : n ≤ 6) (hk : k < 6) (x : Nat → Nat) (a0 a1 : Option D) (st : Store) : ∀ (m i : Nat) (y : Nat → Nat) (a3 : Option D), i + m = 2 ^ n →
    (∀ s, s < 2 ^ n → y s = match Nat.blt s i with | true => passX k x s | false => x s) →
    ∃ b3, forL (cuF2 cf) ((List.range' i m).map natD) [a0, a1, some (.loc st.length), a3, some (natD k)] (st ++ [clC n y]) = .ok (.nx [a0, a1, some (.loc st.length), b3, some (natD k)]) (st ++ [clC n (passX k x)])
  | 0, i, y, a3, hi, hy => by
    refine ⟨a3, ?_⟩
    have : clC n y = clC n (passX k x) := by
      unfold clC
      rw [CL_congr fun s hs => ?_]
      rw [hy s hs]
      have : Nat.blt s i = true := Nat.ble_eq_true_of_le (by omega)
      rw [this]
    rw [this]
    try rfl
  | m + 1, i, y, a3, hi, hy => by
    have hi2 : i < 2 ^ n := by omega
    have h64 : i < 64 := Nat.lt_of_lt_of_le hi2 (Nat.pow_le_pow_right (by decide) hn : 2 ^ n ≤ 2 ^ 6)
    have hx : bitB i k = true → Nat.xor i (2 ^ k) < 2 ^ n := fun hb => by
      have := (bits_is h64 hk hb).1
      omega
    have f := cu_step2 cf n k i y hi2 hx hk a0 a1 a3 st
    have blt_f : ∀ {a b : Nat}, ¬ a < b → Nat.blt a b = false := fun h => Bool.eq_false_iff.mpr fun e => h (Nat.le_of_ble_eq_true e)
    have blt_t : ∀ {a b : Nat}, a < b → Nat.blt a b = true := fun h => Nat.ble_eq_true_of_le h
    have hyi : y i = x i := by rw [hy i hi2, blt_f (by omega)]
    obtain ⟨b3, ih⟩ := cu_loop2 cf n k hn hk x a0 a1 st m (i + 1) (match bitB i k with
      | true => updN y i (y i + y (Nat.xor i (2 ^ k)))
      | false => y) (some (natD i)) (by omega) (fun s hs => by
        by_cases e : s = i
        · subst e
          rw [blt_t (by omega)]
          simp only [passX]
          cases hb : bitB s k with
          | false => exact hyi
          | true =>
            obtain ⟨b1, b2⟩ := bits_is h64 hk hb
            have : y (Nat.xor s (2 ^ k)) = x (Nat.xor s (2 ^ k)) := by
              rw [hy _ (hx hb), blt_t b1]
              simp only [passX, b2]
            simp only [updN_same, hyi, this]
        · have e1 : (match bitB i k with | true => updN y i (y i + y (Nat.xor i (2 ^ k))) | false => y) s = y s := by
            cases bitB i k with
            | false => rfl
            | true => exact updN_ne e
          rw [e1, hy s hs]
          by_cases h : s < i
          · rw [blt_t h, blt_t (by omega)]
          · rw [blt_f h, blt_f (by omega)])
    refine ⟨b3, ?_⟩
    rw [List.range'_succ, List.map_cons, forL, f]
    exact ih
def Zr : Nat → (Nat → Nat) → (Nat → Nat)
  | 0, x => x
  | k + 1, x => passX k (Zr k x)
theorem cu_loop3 (cf : CallF) {n : Nat} (h : Sz n) (x : Nat → Nat) (a1 : Option D) (st : Store) : ∀ (m i : Nat) (a3 a4 : Option D), i + m = n →
    ∃ b3 b4, forL (cuF3 cf) ((List.range' i m).map natD) [some (natD n), a1, some (.loc st.length), a3, a4] (st ++ [clC n (Zr i x)]) = .ok (.nx [some (natD n), a1, some (.loc st.length), b3, b4]) (st ++ [clC n (Zr n x)])
  | 0, i, a3, a4, hi => by
    obtain rfl : i = n := by omega
    exact ⟨a3, a4, rfl⟩
  | m + 1, i, a3, a4, hi => by
    have h6 := h.2
    obtain ⟨c3, e⟩ := cu_loop2 cf n i h6 (by omega) (Zr i x) (some (natD n)) a1 st (2 ^ n) 0 (Zr i x) a3 (by omega) (fun s hs => by
      have : Nat.blt s 0 = false := Bool.eq_false_iff.mpr fun e => by have := Nat.le_of_ble_eq_true e; omega
      rw [this])
    obtain ⟨b3, b4, ih⟩ := cu_loop3 cf h x a1 st m (i + 1) c3 (some (natD i)) (by omega)
    refine ⟨b3, b4, ?_⟩
    have f : cuF3 cf (natD i) [some (natD n), a1, some (.loc st.length), a3, a4] (st ++ [clC n (Zr i x)]) = .ok (.nx [some (natD n), a1, some (.loc st.length), c3, some (natD i)]) (st ++ [clC n (Zr (i + 1) x)]) := by
      show evS cf cuB3 [some (natD n), a1, some (.loc st.length), a3, some (natD i)] (st ++ [clC n (Zr i x)]) = _
      have fl : evS cf (.for (.var 3) (.prim .range1 (.cons (.bin .shl (.cst (.int 1)) (.var 0)) .nil)) cuB2) [some (natD n), a1, some (.loc st.length), a3, some (natD i)] (st ++ [clC n (Zr i x)]) = .ok (.nx [some (natD n), a1, some (.loc st.length), c3, some (natD i)]) (st ++ [clC n (Zr (i + 1) x)]) := by
        rw [evS, rg_is h cf 0 _ _ rfl, rng0, List.range_eq_range']
        exact e
      rw [cuB3, sqS fl]
      try rfl
    rw [List.range'_succ, List.map_cons, forL, f]
    exact ih
theorem under35 {n : Nat} (h : Sz n) (k : Nat) (v : D) (l : List Nat) (hv : isSeqN v l) (hl : ∀ s ∈ l, s < 2 ^ n) (st : Store) : callF k00.T (k + 1) 35 [natD n, v] st = .ok (.lst (CL n (Zr n (markN (fun _ => 0) l)))) st := by
  have T : k00.T[35]? = some k00.f35 := rfl
  have st0 : start 5 [natD n, v] = [some (natD n), some v, none, none, none] := rfl
  have b : k00.f35.body = .seq (.new 2 (.bin .mul (.lst (.cons (.cst (.int 0)) .nil)) (.bin .shl (.cst (.int 1)) (.var 0)))) (.seq (.for (.var 3) (.var 1) cuB1) (.seq (.for (.var 4) (.prim .range1 (.cons (.var 0) .nil)) cuB3) (.seq (.ret (.var 2)) .nil))) := by kernel_rfl
  have f1 : k00.f35.keep = false := rfl
  have f2 : k00.f35.ps = 2 := rfl
  have f3 : k00.f35.sl = 5 := rfl
  have s1 : evS (callF k00.T k) (.new 2 (.bin .mul (.lst (.cons (.cst (.int 0)) .nil)) (.bin .shl (.cst (.int 1)) (.var 0)))) [some (natD n), some v, none, none, none] st = .ok (.nx [some (natD n), some v, some (.loc st.length), none, none]) (st ++ [clC n (fun _ => 0)]) := by
    rcases h.cases with rfl | rfl | rfl | rfl | rfl <;> kernel_rfl
  obtain ⟨b3, e2⟩ := cu_loop1 (callF k00.T k) n (some (natD n)) (some v) none st l (fun _ => 0) none hl
  have sr : srcL (evE (callF k00.T k) (.var 1) [some (natD n), some v, some (.loc st.length), none, none] (st ++ [clC n (fun _ => 0)])) = .ok (l.map natD) (st ++ [clC n (fun _ => 0)]) := by
    rcases hv with rfl | rfl <;> rfl
  have s2 : evS (callF k00.T k) (.for (.var 3) (.var 1) cuB1) [some (natD n), some v, some (.loc st.length), none, none] (st ++ [clC n (fun _ => 0)]) = .ok (.nx [some (natD n), some v, some (.loc st.length), b3, none]) (st ++ [clC n (markN (fun _ => 0) l)]) := by
    rw [evS, sr]
    exact e2
  obtain ⟨c3, c4, e3⟩ := cu_loop3 (callF k00.T k) h (markN (fun _ => 0) l) (some v) st n 0 b3 none (by omega)
  have s3 : evS (callF k00.T k) (.for (.var 4) (.prim .range1 (.cons (.var 0) .nil)) cuB3) [some (natD n), some v, some (.loc st.length), b3, none] (st ++ [clC n (markN (fun _ => 0) l)]) = .ok (.nx [some (natD n), some v, some (.loc st.length), c3, c4]) (st ++ [clC n (Zr n (markN (fun _ => 0) l))]) := by
    rw [evS, rgN h _ 0 _ _ rfl]
    exact e3
  have fi : Py.fin st.length (st ++ [clC n (Zr n (markN (fun _ => 0) l))]) (.loc st.length) = .ok (.lst (CL n (Zr n (markN (fun _ => 0) l)))) st := by
    simp [Py.fin, resolve, isLoc, clC]
  rw [callF]
  simp only [T, runFn, f1, f2, f3, b, List.length_cons, List.length_nil, Nat.reduceAdd, if_true, st0]
  rw [sqS s1, sqS s2, sqS s3]
  exact fi
end K0
end Py
end
section
set_option Elab.async false
set_option linter.all false
set_option maxRecDepth 100000
set_option maxHeartbeats 1000000
namespace Py
namespace K0
/-! ### what the counts tell -/
def subsN : Nat → Nat → List Nat
  | 0, s => [s]
  | k + 1, s => match bitB s k with
    | true => subsN k s ++ subsN k (Nat.xor s (2 ^ k))
    | false => subsN k s
def sumX (x : Nat → Nat) : List Nat → Nat
  | [] => 0
  | t :: r => x t + sumX x r
theorem sumX_app (x : Nat → Nat) : ∀ l r, sumX x (l ++ r) = sumX x l + sumX x r
  | [], r => by simp [sumX]
  | t :: l, r => by
    have := sumX_app x l r
    simp only [List.cons_append, sumX, this]
    omega
theorem Zr_sum (x : Nat → Nat) : ∀ k s, Zr k x s = sumX x (subsN k s)
  | 0, s => by simp [Zr, subsN, sumX]
  | k + 1, s => by
    have h1 := Zr_sum x k s
    have h2 := Zr_sum x k (Nat.xor s (2 ^ k))
    simp only [Zr, passX, subsN]
    cases bitB s k with
    | false => exact h1
    | true => rw [sumX_app]; simp only [h1, h2]
def hasN (l : List Nat) (t : Nat) : Bool := l.any fun s => Nat.beq s t
theorem hasN_iff {l : List Nat} {t : Nat} : hasN l t = true ↔ t ∈ l := by
  unfold hasN
  rw [List.any_eq_true]
  constructor
  · rintro ⟨s, h1, h2⟩
    rw [← Nat.eq_of_beq_eq_true h2]
    exact h1
  · intro h
    exact ⟨t, h, Nat.beq_refl t⟩
def indN (l : List Nat) : Nat → Nat := fun t => match hasN l t with
  | true => 1
  | false => 0
theorem mark_is : ∀ (l : List Nat) (x : Nat → Nat) (t : Nat), markN x l t = match hasN l t with | true => 1 | false => x t
  | [], x, t => rfl
  | s :: r, x, t => by
    have ih := mark_is r (updN x s 1) t
    simp only [markN, ih]
    have : hasN (s :: r) t = (Nat.beq s t || hasN r t) := rfl
    rw [this]
    cases h1 : hasN r t with
    | true => simp
    | false =>
      simp only [Bool.or_false]
      cases h2 : Nat.beq s t with
      | true =>
        rw [Nat.eq_of_beq_eq_true h2]
        exact updN_same
      | false =>
        refine updN_ne fun e => ?_
        rw [e, Nat.beq_refl] at h2
        cases h2
theorem mark_ind (l : List Nat) : markN (fun _ => 0) l = indN l := by
  funext t
  exact mark_is l _ t
theorem sum_pos (l : List Nat) : ∀ r, 0 < sumX (indN l) r ↔ ∃ t ∈ r, t ∈ l
  | [] => by simp [sumX]
  | t :: r => by
    have ih := sum_pos l r
    have e : (∃ u ∈ t :: r, u ∈ l) ↔ (hasN l t = true ∨ ∃ u ∈ r, u ∈ l) := by
      constructor
      · rintro ⟨u, hu, hm⟩
        rcases List.mem_cons.mp hu with rfl | hu
        · exact Or.inl (hasN_iff.mpr hm)
        · exact Or.inr ⟨u, hu, hm⟩
      · rintro (h | ⟨u, hu, hm⟩)
        · exact ⟨t, List.mem_cons_self, hasN_iff.mp h⟩
        · exact ⟨u, List.mem_cons_of_mem _ hu, hm⟩
    rw [e, ← ih]
    simp only [sumX]
    unfold indN
    cases hasN l t with
    | true => simp; omega
    | false => simp
theorem subs_all : ([2, 3, 4, 5, 6].all fun n => (List.range (2 ^ n)).all fun s => match subsN n s with
    | [] => false
    | u :: r => Nat.beq u s && (r.all (fun t => (!Nat.beq t s && landB t s) && Nat.blt t (2 ^ n))) && (List.range (2 ^ n)).all fun t => !landB t s || hasN (u :: r) t) = true := by decide +kernel
theorem subs_is {n s : Nat} (h : Sz n) (hs : s < 2 ^ n) : ∃ r, subsN n s = s :: r ∧ (∀ t ∈ r, t ≠ s ∧ landB t s = true ∧ t < 2 ^ n) ∧ ∀ t, t < 2 ^ n → landB t s = true → t ≠ s → t ∈ r := by
  have hn : n ∈ [2, 3, 4, 5, 6] := by rcases h.cases with rfl | rfl | rfl | rfl | rfl <;> simp
  have e := List.all_eq_true.mp (List.all_eq_true.mp subs_all n hn) s (List.mem_range.mpr hs)
  cases hr : subsN n s with
  | nil => rw [hr] at e; exact nomatch e
  | cons u r =>
    rw [hr] at e
    simp only [Bool.and_eq_true] at e
    obtain ⟨⟨e1, e2⟩, e3⟩ := e
    have e1 := Nat.eq_of_beq_eq_true e1
    subst e1
    refine ⟨r, rfl, fun t ht => ?_, fun t ht hl hne => ?_⟩
    · have := List.all_eq_true.mp e2 t ht
      simp only [Bool.and_eq_true, Bool.not_eq_true'] at this
      refine ⟨fun e => ?_, this.1.2, Nat.le_of_ble_eq_true this.2⟩
      rw [e, Nat.beq_refl] at this
      exact nomatch this.1.1
    · have := List.all_eq_true.mp e3 t (List.mem_range.mpr ht)
      rw [hl, Bool.not_true, Bool.false_or, hasN_iff] at this
      rcases List.mem_cons.mp this with h | h
      · exact absurd h hne
      · exact h
theorem land_self (s : Nat) : landB s s = true := by
  unfold landB
  have : Nat.land s s = s := Nat.and_self s
  rw [this, Nat.beq_refl]
def cntN (n : Nat) (l : List Nat) (s : Nat) : Nat := Zr n (markN (fun _ => 0) l) s
theorem cnt_pos {n s : Nat} {l : List Nat} (h : Sz n) (hs : s < 2 ^ n) (hl : ∀ t ∈ l, t < 2 ^ n) : Nat.blt 0 (cntN n l s) = l.any fun t => landB t s := by
  obtain ⟨r, h1, h2, h3⟩ := subs_is h hs
  have p : 0 < cntN n l s ↔ ∃ t ∈ l, landB t s = true := by
    unfold cntN
    rw [Zr_sum, mark_ind, sum_pos, h1]
    constructor
    · rintro ⟨t, ht, hm⟩
      refine ⟨t, hm, ?_⟩
      rcases List.mem_cons.mp ht with rfl | ht
      · exact land_self t
      · exact (h2 t ht).2.1
    · rintro ⟨t, hm, ht⟩
      refine ⟨t, ?_, hm⟩
      by_cases e : t = s
      · rw [e]; exact List.mem_cons_self
      · exact List.mem_cons_of_mem _ (h3 t (hl t hm) ht e)
  rw [Bool.eq_iff_iff, List.any_eq_true, ← p]
  exact ⟨fun e => Nat.le_of_ble_eq_true e, fun e => Nat.ble_eq_true_of_le e⟩
theorem cnt_one {n s : Nat} {l : List Nat} (h : Sz n) (hs : s < 2 ^ n) (hl : ∀ t ∈ l, t < 2 ^ n) (hm : s ∈ l) : Nat.beq (cntN n l s) 1 = !(l.any fun t => !Nat.beq t s && landB t s) := by
  obtain ⟨r, h1, h2, h3⟩ := subs_is h hs
  have i1 : indN l s = 1 := by
    unfold indN
    rw [hasN_iff.mpr hm]
  have p : cntN n l s = 1 ↔ ¬ ∃ t ∈ l, t ≠ s ∧ landB t s = true := by
    unfold cntN
    rw [Zr_sum, mark_ind, h1, sumX, i1]
    have q := sum_pos l r
    constructor
    · rintro e ⟨t, ht, hne, hl2⟩
      have := q.mpr ⟨t, h3 t (hl t ht) hl2 hne, ht⟩
      omega
    · intro e
      have : ¬ 0 < sumX (indN l) r := fun z => by
        obtain ⟨t, ht, hm⟩ := q.mp z
        exact e ⟨t, hm, (h2 t ht).1, (h2 t ht).2.1⟩
      omega
  have pb : Nat.beq (cntN n l s) 1 = true ↔ cntN n l s = 1 := ⟨Nat.eq_of_beq_eq_true, fun e => by rw [e]; rfl⟩
  rw [Bool.eq_iff_iff, pb, p, Bool.not_eq_true', ← Bool.not_eq_true, List.any_eq_true]
  refine not_congr ⟨?_, ?_⟩
  · rintro ⟨t, ht, hne, hl2⟩
    refine ⟨t, ht, ?_⟩
    have : Nat.beq t s = false := Bool.eq_false_iff.mpr fun e => hne (Nat.eq_of_beq_eq_true e)
    rw [this, hl2]
    try rfl
  · rintro ⟨t, ht, e⟩
    simp only [Bool.and_eq_true, Bool.not_eq_true'] at e
    refine ⟨t, ht, fun z => ?_, e.2⟩
    rw [z, Nat.beq_refl] at e
    exact nomatch e.1
theorem turn_all : ([2, 3, 4, 5, 6].all fun n => (List.range (2 ^ n)).all fun s => Nat.blt (Nat.xor (lastN n) s) (2 ^ n) && (List.range (2 ^ n)).all fun t =>
    (landB (Nat.xor (lastN n) t) (Nat.xor (lastN n) s) == landB s t) && (Nat.beq (Nat.xor (lastN n) t) (Nat.xor (lastN n) s) == Nat.beq t s)) = true := by decide +kernel
theorem turn_is {n s : Nat} (h : Sz n) (hs : s < 2 ^ n) : Nat.xor (lastN n) s < 2 ^ n ∧ ∀ t, t < 2 ^ n → landB (Nat.xor (lastN n) t) (Nat.xor (lastN n) s) = landB s t ∧ Nat.beq (Nat.xor (lastN n) t) (Nat.xor (lastN n) s) = Nat.beq t s := by
  have hn : n ∈ [2, 3, 4, 5, 6] := by rcases h.cases with rfl | rfl | rfl | rfl | rfl <;> simp
  have e := List.all_eq_true.mp (List.all_eq_true.mp turn_all n hn) s (List.mem_range.mpr hs)
  simp only [Bool.and_eq_true] at e
  refine ⟨Nat.le_of_ble_eq_true e.1, fun t ht => ?_⟩
  have := List.all_eq_true.mp e.2 t (List.mem_range.mpr ht)
  simp only [Bool.and_eq_true] at this
  exact ⟨eq_of_beq this.1, eq_of_beq this.2⟩
theorem any_congr {l : List Nat} {p q : Nat → Bool} (h : ∀ t ∈ l, p t = q t) : l.any p = l.any q := by
  induction l with
  | nil => rfl
  | cons a r ih =>
    rw [List.any_cons, List.any_cons, h a List.mem_cons_self, ih fun t ht => h t (List.mem_cons_of_mem _ ht)]
def turnL (n : Nat) (l : List Nat) : List Nat := l.map fun t => Nat.xor (lastN n) t
theorem turnL_lt {n : Nat} {l : List Nat} (h : Sz n) (hl : ∀ t ∈ l, t < 2 ^ n) : ∀ t ∈ turnL n l, t < 2 ^ n := fun t ht => by
  obtain ⟨u, hu, rfl⟩ := List.mem_map.mp ht
  exact (turn_is h (hl u hu)).1
def cntO (n : Nat) (l : List Nat) (s : Nat) : Nat := cntN n (turnL n l) (Nat.xor (lastN n) s)
theorem cntO_pos {n s : Nat} {l : List Nat} (h : Sz n) (hs : s < 2 ^ n) (hl : ∀ t ∈ l, t < 2 ^ n) : Nat.blt 0 (cntO n l s) = l.any fun t => landB s t := by
  have t := turn_is h hs
  unfold cntO
  rw [cnt_pos h t.1 (turnL_lt h hl)]
  unfold turnL
  rw [List.any_map]
  exact any_congr fun u hu => (t.2 u (hl u hu)).1
theorem cntO_one {n s : Nat} {l : List Nat} (h : Sz n) (hs : s < 2 ^ n) (hl : ∀ t ∈ l, t < 2 ^ n) (hm : s ∈ l) : Nat.beq (cntO n l s) 1 = !(l.any fun t => !Nat.beq t s && landB s t) := by
  have t := turn_is h hs
  unfold cntO
  rw [cnt_one h t.1 (turnL_lt h hl) (List.mem_map.mpr ⟨s, hm, rfl⟩)]
  unfold turnL
  rw [List.any_map]
  congr 1
  refine any_congr fun u hu => ?_
  have := t.2 u (hl u hu)
  show (!Nat.beq (Nat.xor (lastN n) u) (Nat.xor (lastN n) s) && landB (Nat.xor (lastN n) u) (Nat.xor (lastN n) s)) = _
  rw [this.1, this.2]
/-! ### the least over, the most under -/
theorem cellN_all : ([2, 3, 4, 5, 6].all fun n => (List.range (2 ^ n)).all fun a => Nat.beq (sumP (cellN n a)) a && (List.range n).all fun k => inB n a k == Nat.beq (a / 2 ^ k % 2) 1) = true := by decide +kernel
theorem cellN_is {n a : Nat} (h : Sz n) (ha : a < 2 ^ n) : sumP (cellN n a) = a ∧ ∀ k, k < n → inB n a k = Nat.beq (a / 2 ^ k % 2) 1 := by
  have hn : n ∈ [2, 3, 4, 5, 6] := by rcases h.cases with rfl | rfl | rfl | rfl | rfl <;> simp
  have e := List.all_eq_true.mp (List.all_eq_true.mp cellN_all n hn) a (List.mem_range.mpr ha)
  simp only [Bool.and_eq_true] at e
  exact ⟨Nat.eq_of_beq_eq_true e.1, fun k hk => eq_of_beq (List.all_eq_true.mp e.2 k (List.mem_range.mpr hk))⟩
theorem orand_all : ((List.range 64).all fun a => (List.range 64).all fun b => Nat.blt (Nat.lor a b) 64 && (List.range 6).all fun k => (bt (Nat.lor a b) k == (bt a k || bt b k)) && (bt (Nat.land a b) k == (bt a k && bt b k))) = true := by decide +kernel
theorem orand {a b k : Nat} (ha : a < 64) (hb : b < 64) (hk : k < 6) : bt (Nat.lor a b) k = (bt a k || bt b k) ∧ bt (Nat.land a b) k = (bt a k && bt b k) := by
  have e := List.all_eq_true.mp (List.all_eq_true.mp orand_all a (List.mem_range.mpr ha)) b (List.mem_range.mpr hb)
  simp only [Bool.and_eq_true] at e
  have := List.all_eq_true.mp e.2 k (List.mem_range.mpr hk)
  simp only [Bool.and_eq_true] at this
  exact ⟨eq_of_beq this.1, eq_of_beq this.2⟩
def orL : Nat → List Nat → Nat
  | m, [] => m
  | m, s :: r => orL (Nat.lor m s) r
def andL : Nat → List Nat → Nat
  | m, [] => m
  | m, s :: r => andL (Nat.land m s) r
theorem lt64 {n s : Nat} (h : Sz n) (hs : s < 2 ^ n) : s < 64 := Nat.lt_of_lt_of_le hs (Nat.pow_le_pow_right (by decide) h.2 : 2 ^ n ≤ 2 ^ 6)
theorem orL_is {n k : Nat} (h : Sz n) (hk : k < 6) : ∀ (l : List Nat) (m : Nat), m < 2 ^ n → (∀ s ∈ l, s < 2 ^ n) → orL m l < 2 ^ n ∧ bt (orL m l) k = (bt m k || l.any fun s => bt s k)
  | [], m, hm, _ => ⟨hm, by simp [orL]⟩
  | s :: r, m, hm, hl => by
    have hs := hl s List.mem_cons_self
    have h1 : Nat.lor m s < 2 ^ n := Nat.or_lt_two_pow hm hs
    obtain ⟨i1, i2⟩ := orL_is h hk r (Nat.lor m s) h1 fun t ht => hl t (List.mem_cons_of_mem _ ht)
    refine ⟨i1, ?_⟩
    show bt (orL (Nat.lor m s) r) k = _
    rw [i2, (orand (lt64 h hm) (lt64 h hs) hk).1, List.any_cons, Bool.or_assoc]
theorem andL_is {n k : Nat} (h : Sz n) (hk : k < 6) : ∀ (l : List Nat) (m : Nat), m < 2 ^ n → (∀ s ∈ l, s < 2 ^ n) → andL m l < 2 ^ n ∧ bt (andL m l) k = (bt m k && !l.any fun s => !bt s k)
  | [], m, hm, _ => ⟨hm, by simp [andL]⟩
  | s :: r, m, hm, hl => by
    have hs := hl s List.mem_cons_self
    have h1 : Nat.land m s < 2 ^ n := Nat.lt_of_le_of_lt (Nat.and_le_left) hm
    obtain ⟨i1, i2⟩ := andL_is h hk r (Nat.land m s) h1 fun t ht => hl t (List.mem_cons_of_mem _ ht)
    refine ⟨i1, ?_⟩
    show bt (andL (Nat.land m s) r) k = _
    rw [i2, (orand (lt64 h hm) (lt64 h hs) hk).2, List.any_cons, Bool.not_or, Bool.not_not, Bool.and_assoc]
theorem last_all : ([2, 3, 4, 5, 6].all fun n => Nat.blt (lastN n) (2 ^ n) && (List.range n).all fun k => bt (lastN n) k) = true := by decide +kernel
theorem last_is {n : Nat} (h : Sz n) : lastN n < 2 ^ n ∧ ∀ k, k < n → bt (lastN n) k = true := by
  have hn : n ∈ [2, 3, 4, 5, 6] := by rcases h.cases with rfl | rfl | rfl | rfl | rfl <;> simp
  have e := List.all_eq_true.mp last_all n hn
  simp only [Bool.and_eq_true] at e
  exact ⟨Nat.le_of_ble_eq_true e.1, fun k hk => List.all_eq_true.mp e.2 k (List.mem_range.mpr hk)⟩
theorem least_sum {n : Nat} {l : List Nat} (h : Sz n) (hl : ∀ s ∈ l, s < 2 ^ n) : sumP ((List.range n).filter fun k => l.any fun s => inB n s k) = orL 0 l := by
  have h0 : 0 < 2 ^ n := Nat.two_pow_pos n
  have h6 := h.2
  have hh := h.1
  have o := orL_is h (k := 0) (by decide) l 0 h0 hl
  rw [← (cellN_is h o.1).1]
  congr 1
  unfold cellN
  refine List.filter_congr fun k hk => ?_
  have hk := List.mem_range.mp hk
  have o := (orL_is h (k := k) (by omega) l 0 h0 hl).2
  have z : bt 0 k = false := by
    have : k = 0 ∨ k = 1 ∨ k = 2 ∨ k = 3 ∨ k = 4 ∨ k = 5 := by omega
    rcases this with rfl | rfl | rfl | rfl | rfl | rfl <;> rfl
  show _ = bt (orL 0 l) k
  rw [o, z, Bool.false_or]
  exact any_congr fun s hs => (cellN_is h (hl s hs)).2 k hk
theorem most_sum {n : Nat} {l : List Nat} (h : Sz n) (hl : ∀ s ∈ l, s < 2 ^ n) : sumP ((List.range n).filter fun k => !l.any fun s => !inB n s k) = andL (lastN n) l := by
  have h6 := h.2
  have hh := h.1
  have o := andL_is h (k := 0) (by decide) l (lastN n) (last_is h).1 hl
  rw [← (cellN_is h o.1).1]
  congr 1
  unfold cellN
  refine List.filter_congr fun k hk => ?_
  have hk := List.mem_range.mp hk
  have o := (andL_is h (k := k) (by omega) l (lastN n) (last_is h).1 hl).2
  show _ = bt (andL (lastN n) l) k
  rw [o, (last_is h).2 k hk, Bool.true_and]
  congr 1
  exact any_congr fun s hs => by rw [(cellN_is h (hl s hs)).2 k hk]; rfl
end K0
end Py
end
section
set_option Elab.async false
set_option linter.all false
set_option maxRecDepth 100000
set_option maxHeartbeats 1000000
namespace Py
namespace K0
/-! ### the defs of sets -/
theorem lstT {cf : CallF} {src c : Ex} {env : Env} {i : Nat} {l : List Nat} {p : Nat → Bool} {st : Store} (hs : srcL (evE cf src env st) = .ok (l.map natD) st) (hi : i < env.length)
    (hc : ∀ s ∈ l, ∀ st, ∃ d, evE cf c (env.set i (some (natD s))) st = .ok d st ∧ truth (resolve st d) = some (p s)) (hl : l.length ≤ 4096) : evE cf (.comp (.var i) [i] (.var i) src c) env st = .ok (.lst ((l.filter p).map natD)) st := by
  rw [evE_comp, hs]
  have e : compL (stepC cf (.var i) [i] (.var i) c env) (l.map natD) st = .ok ((l.filter p).map natD) st := compL_filter fun s hs st => by
    obtain ⟨d, h1, h2⟩ := hc s hs st
    have e1 : setTg (.var i) (natD s) (wipe env [i]) = some (env.set i (some (natD s))) := by
      simp [setTg, natD, gl, wipe]
    have e2 : ∀ st, evE cf (.var i) (env.set i (some (natD s))) st = .ok (natD s) st := fun st => by
      rw [evE, List.getElem?_set_self hi]
    simp only [stepC, e1, h1, ok_bind, h2]
    cases p s with
    | true =>
      simp only [e2, ok_bind]
      try rfl
    | false => rfl
  have hn : ((l.filter p).map natD).length ≤ sizeMax := by
    rw [List.length_map]
    have := List.length_filter_le p l
    have : sizeMax = 16777216 := rfl
    omega
  simp only [ok_bind, restC, e, Out.noexc, List.nil_append, hn, if_true]
theorem tup1 {cf : CallF} {x : Ex} {env : Env} {st : Store} {l : List D} (h : evE cf x env st = .ok (.lst l) st) : evE cf (.prim .tuple (.cons x .nil)) env st = .ok (.tup l) st := by
  have e : evL cf (.cons x .nil) env st = .ok [.lst l] st := by
    rw [evL, h]
    try rfl
  rw [evE, e]
  try rfl
theorem list1 {cf : CallF} {x : Ex} {env : Env} {st : Store} {l : List D} (h : evE cf x env st = .ok (.tup l) st) : evE cf (.prim .list (.cons x .nil)) env st = .ok (.lst l) st := by
  have e : evL cf (.cons x .nil) env st = .ok [.tup l] st := by
    rw [evL, h]
    try rfl
  rw [evE, e]
  try rfl
theorem src_var {cf : CallF} {i : Nat} {env : Env} {st : Store} {v : D} {l : List Nat} (he : env[i]? = some (some v)) (hv : isSeqN v l) : srcL (evE cf (.var i) env st) = .ok (l.map natD) st := by
  simp only [evE, he]
  rcases hv with rfl | rfl <;> rfl
theorem setI {cf : CallF} {i : Nat} {e : Ex} {env : Env} {st : Store} {d : D} (h : evE cf e env st = .ok d st) : evS cf (.set (.var i) e) env st = .ok (.nx (env.set i (some d))) st := by
  rw [evS, h]
  try rfl
theorem xrE {cf : CallF} {i j : Nat} {env : Env} {st : Store} {a b : Nat} (h1 : env[i]? = some (some (natD a))) (h2 : env[j]? = some (some (natD b))) : evE cf (.bin .bxor (.var i) (.var j)) env st = .ok (natD (Nat.xor a b)) st := by
  refine binE (x := natD a) (y := natD b) ?_ ?_ rfl
  · simp only [evE, h1]
  · simp only [evE, h2]
theorem over36 {n : Nat} (h : Sz n) (k : Nat) (v : D) (l : List Nat) (hv : isSeqN v l) (hl : ∀ s ∈ l, s < 2 ^ n) (hn : l.length ≤ 4096) (st : Store) : callF k00.T (k + 2) 36 [natD n, v] st = .ok (.lst (CL n (cntO n l))) st := by
  have T : k00.T[36]? = some k00.f36 := rfl
  have st0 : start 5 [natD n, v] = [some (natD n), some v, none, none, none] := rfl
  have b : k00.f36.body = .seq (.set (.var 2) (.bin .sub (.bin .shl (.cst (.int 1)) (.var 0)) (.cst (.int 1)))) (.seq (.set (.var 3) (.call 35 (.cons (.var 0) (.cons (.comp (.bin .bxor (.var 2) (.var 4)) [4] (.var 4) (.var 1) (.cst (.bl true))) .nil)))) (.seq (.ret (.comp (.ix (.var 3) (.bin .bxor (.var 2) (.var 4))) [4] (.var 4) (.prim .range1 (.cons (.bin .shl (.cst (.int 1)) (.var 0)) .nil)) (.cst (.bl true)))) .nil)) := by kernel_rfl
  have f1 : k00.f36.keep = true := rfl
  have f2 : k00.f36.ps = 2 := rfl
  have f3 : k00.f36.sl = 5 := rfl
  have m1 := mapf (cf := callF k00.T (k + 1)) (i := 4) (elt := .bin .bxor (.var 2) (.var 4)) (env := [some (natD n), some v, some (natD (lastN n)), none, none]) (f := fun t => Nat.xor (lastN n) t) (st := st) (src_var (i := 1) rfl hv) (fun s _ st => xrE rfl rfl) hn
  have u := under35 h k (.lst ((turnL n l).map natD)) (turnL n l) (Or.inr rfl) (turnL_lt h hl) st
  have e1 : evE (callF k00.T (k + 1)) (.call 35 (.cons (.var 0) (.cons (.comp (.bin .bxor (.var 2) (.var 4)) [4] (.var 4) (.var 1) (.cst (.bl true))) .nil))) [some (natD n), some v, some (natD (lastN n)), none, none] st = .ok (.lst (CL n (cntN n (turnL n l)))) st := by
    rw [evE, evL2 (d := natD n) rfl m1]
    exact u
  have m2 := mapf (cf := callF k00.T (k + 1)) (i := 4) (elt := .ix (.var 3) (.bin .bxor (.var 2) (.var 4))) (env := [some (natD n), some v, some (natD (lastN n)), some (.lst (CL n (cntN n (turnL n l)))), none]) (f := cntO n l) (st := st) (l := List.range (2 ^ n)) (by rw [rg_is h _ 0 _ _ rfl, rng0]) (fun s hs st => by
    have hx := (turn_is h (List.mem_range.mp hs)).1
    have e := xrE (cf := callF k00.T (k + 1)) (i := 2) (j := 4) (env := [some (natD n), some v, some (natD (lastN n)), some (.lst (CL n (cntN n (turnL n l)))), some (natD s)]) (st := st) rfl rfl
    show evE (callF k00.T (k + 1)) (.ix (.var 3) (.bin .bxor (.var 2) (.var 4))) [some (natD n), some v, some (natD (lastN n)), some (.lst (CL n (cntN n (turnL n l)))), some (natD s)] st = _
    have ev : ∀ st, evE (callF k00.T (k + 1)) (.var 3) [some (natD n), some v, some (natD (lastN n)), some (.lst (CL n (cntN n (turnL n l)))), some (natD s)] st = .ok (.lst (CL n (cntN n (turnL n l)))) st := fun st => rfl
    rw [evE, ev]
    simp only [ok_bind]
    rw [e]
    simp only [ok_bind, rl_is, rn_is, ix_cl hx]
    rfl) (by rw [List.length_range]; exact Nat.le_trans (Nat.le_of_lt_succ (Nat.lt_succ_of_le (Nat.pow_le_pow_right (by decide) h.2 : 2 ^ n ≤ 2 ^ 6))) (by decide))
  rw [callF]
  simp only [T, runFn, f1, f2, f3, b, List.length_cons, List.length_nil, Nat.reduceAdd, if_true, st0]
  rw [sqS (setI (lastE h _ 0 _ _ rfl))]
  simp only [List.set_cons_succ, List.set_cons_zero]
  rw [sqS (setI e1)]
  simp only [List.set_cons_succ, List.set_cons_zero]
  rw [evS, evS, m2, List.map_map]
  try rfl
section
variable {n : Nat} (h : Sz n) (k : Nat) (v : D) (l : List Nat) (hv : isSeqN v l) (hr : risN (lastN n) 0 l = true) (hn : l.length ≤ 4096) (st : Store)
include h hr in
theorem ris_lt : ∀ s ∈ l, s < 2 ^ n := fun s hs => by
  have := (ris_mem hr hs).2
  have h1 := (last_is h).1
  omega
include h hv hr hn
theorem low37 : callF k00.T (k + 6) 37 [natD n, v] st = .ok (.tup ((l.filter fun s => Nat.beq (cntN n l s) 1).map natD)) st := by
  have T : k00.T[37]? = some k00.f37 := rfl
  have st0 : start 4 [natD n, v] = [some (natD n), some v, none, none] := rfl
  have b : k00.f37.body = .seq (.expr (.call 17 (.cons (.var 0) (.cons (.var 1) .nil)))) (.seq (.set (.var 2) (.call 35 (.cons (.var 0) (.cons (.var 1) .nil)))) (.seq (.ret (.prim .tuple (.cons (.comp (.var 3) [3] (.var 3) (.var 1) (.cmp .eq (.ix (.var 2) (.var 3)) (.cst (.int 1)))) .nil))) .nil)) := by kernel_rfl
  have f1 : k00.f37.keep = true := rfl
  have f2 : k00.f37.ps = 2 := rfl
  have f3 : k00.f37.sl = 4 := rfl
  have lt := ris_lt h l hr
  have c1 : ∀ st, callF k00.T (k + 5) 17 [natD n, v] st = .ok .none st := fun st => chk17 h k v l hv hr st
  have c2 : ∀ st, callF k00.T (k + 5) 35 [natD n, v] st = .ok (.lst (CL n (cntN n l))) st := fun st => under35 h (k + 4) v l hv lt st
  have e1 : evS (callF k00.T (k + 5)) (.expr (.call 17 (.cons (.var 0) (.cons (.var 1) .nil)))) [some (natD n), some v, none, none] st = .ok (.nx [some (natD n), some v, none, none]) st := by
    simp only [evS, evE, evL, List.getElem?_cons_zero, List.getElem?_cons_succ, ok_bind, callE, c1]
  have e2 : evE (callF k00.T (k + 5)) (.call 35 (.cons (.var 0) (.cons (.var 1) .nil))) [some (natD n), some v, none, none] st = .ok (.lst (CL n (cntN n l))) st := by
    simp only [evE, evL, List.getElem?_cons_zero, List.getElem?_cons_succ, ok_bind, callE, c2]
  have e3 := lstf (cf := callF k00.T (k + 5)) (i := 3) (c := .cmp .eq (.ix (.var 2) (.var 3)) (.cst (.int 1))) (env := [some (natD n), some v, some (.lst (CL n (cntN n l))), none]) (p := fun s => Nat.beq (cntN n l s) 1) (st := st) (src_var (i := 1) rfl hv) (by simp) (fun s hs st => by
    have og : ∀ m, opg st (some (natD m)) = .ok (natD m) st := fun m => rfl
    have ri : resolve st (.int 1) = .int 1 := rfl
    have eq : ∀ x, cmpD .eq (natD x) (.int 1) = some (Nat.beq x 1) := fun x => rfl
    simp only [evE, List.set_cons_succ, List.set_cons_zero, List.getElem?_cons_zero, List.getElem?_cons_succ, ok_bind, rl_is, rn_is, ix_cl (lt s hs), og, ri, eq, Option.map_some, opt_some]) hn
  rw [callF]
  simp only [T, runFn, f1, f2, f3, b, List.length_cons, List.length_nil, Nat.reduceAdd, if_true, st0]
  rw [sqS e1, sqS (setI e2)]
  simp only [List.set_cons_succ, List.set_cons_zero]
  rw [evS, evS, tup1 e3]
  try rfl
theorem high38 : callF k00.T (k + 6) 38 [natD n, v] st = .ok (.tup ((l.filter fun s => Nat.beq (cntO n l s) 1).map natD)) st := by
  have T : k00.T[38]? = some k00.f38 := rfl
  have st0 : start 4 [natD n, v] = [some (natD n), some v, none, none] := rfl
  have b : k00.f38.body = .seq (.expr (.call 17 (.cons (.var 0) (.cons (.var 1) .nil)))) (.seq (.set (.var 2) (.call 36 (.cons (.var 0) (.cons (.var 1) .nil)))) (.seq (.ret (.prim .tuple (.cons (.comp (.var 3) [3] (.var 3) (.var 1) (.cmp .eq (.ix (.var 2) (.var 3)) (.cst (.int 1)))) .nil))) .nil)) := by kernel_rfl
  have f1 : k00.f38.keep = true := rfl
  have f2 : k00.f38.ps = 2 := rfl
  have f3 : k00.f38.sl = 4 := rfl
  have lt := ris_lt h l hr
  have c1 : ∀ st, callF k00.T (k + 5) 17 [natD n, v] st = .ok .none st := fun st => chk17 h k v l hv hr st
  have c2 : ∀ st, callF k00.T (k + 5) 36 [natD n, v] st = .ok (.lst (CL n (cntO n l))) st := fun st => over36 h (k + 3) v l hv lt hn st
  have e1 : evS (callF k00.T (k + 5)) (.expr (.call 17 (.cons (.var 0) (.cons (.var 1) .nil)))) [some (natD n), some v, none, none] st = .ok (.nx [some (natD n), some v, none, none]) st := by
    simp only [evS, evE, evL, List.getElem?_cons_zero, List.getElem?_cons_succ, ok_bind, callE, c1]
  have e2 : evE (callF k00.T (k + 5)) (.call 36 (.cons (.var 0) (.cons (.var 1) .nil))) [some (natD n), some v, none, none] st = .ok (.lst (CL n (cntO n l))) st := by
    simp only [evE, evL, List.getElem?_cons_zero, List.getElem?_cons_succ, ok_bind, callE, c2]
  have e3 := lstf (cf := callF k00.T (k + 5)) (i := 3) (c := .cmp .eq (.ix (.var 2) (.var 3)) (.cst (.int 1))) (env := [some (natD n), some v, some (.lst (CL n (cntO n l))), none]) (p := fun s => Nat.beq (cntO n l s) 1) (st := st) (src_var (i := 1) rfl hv) (by simp) (fun s hs st => by
    have og : ∀ m, opg st (some (natD m)) = .ok (natD m) st := fun m => rfl
    have ri : resolve st (.int 1) = .int 1 := rfl
    have eq : ∀ x, cmpD .eq (natD x) (.int 1) = some (Nat.beq x 1) := fun x => rfl
    simp only [evE, List.set_cons_succ, List.set_cons_zero, List.getElem?_cons_zero, List.getElem?_cons_succ, ok_bind, rl_is, rn_is, ix_cl (lt s hs), og, ri, eq, Option.map_some, opt_some]) hn
  rw [callF]
  simp only [T, runFn, f1, f2, f3, b, List.length_cons, List.length_nil, Nat.reduceAdd, if_true, st0]
  rw [sqS e1, sqS (setI e2)]
  simp only [List.set_cons_succ, List.set_cons_zero]
  rw [evS, evS, tup1 e3]
  try rfl
theorem grown39 : callF k00.T (k + 6) 39 [natD n, v] st = .ok (.tup (((List.range (2 ^ n)).filter fun s => Nat.blt 0 (cntN n l s)).map natD)) st := by
  have T : k00.T[39]? = some k00.f39 := rfl
  have st0 : start 4 [natD n, v] = [some (natD n), some v, none, none] := rfl
  have b : k00.f39.body = .seq (.expr (.call 17 (.cons (.var 0) (.cons (.var 1) .nil)))) (.seq (.set (.var 2) (.call 35 (.cons (.var 0) (.cons (.var 1) .nil)))) (.seq (.ret (.prim .tuple (.cons (.comp (.var 3) [3] (.var 3) (.prim .range1 (.cons (.bin .shl (.cst (.int 1)) (.var 0)) .nil)) (.cmp .gt (.ix (.var 2) (.var 3)) (.cst (.int 0)))) .nil))) .nil)) := by kernel_rfl
  have f1 : k00.f39.keep = true := rfl
  have f2 : k00.f39.ps = 2 := rfl
  have f3 : k00.f39.sl = 4 := rfl
  have lt := ris_lt h l hr
  have c1 : ∀ st, callF k00.T (k + 5) 17 [natD n, v] st = .ok .none st := fun st => chk17 h k v l hv hr st
  have c2 : ∀ st, callF k00.T (k + 5) 35 [natD n, v] st = .ok (.lst (CL n (cntN n l))) st := fun st => under35 h (k + 4) v l hv lt st
  have e1 : evS (callF k00.T (k + 5)) (.expr (.call 17 (.cons (.var 0) (.cons (.var 1) .nil)))) [some (natD n), some v, none, none] st = .ok (.nx [some (natD n), some v, none, none]) st := by
    simp only [evS, evE, evL, List.getElem?_cons_zero, List.getElem?_cons_succ, ok_bind, callE, c1]
  have e2 : evE (callF k00.T (k + 5)) (.call 35 (.cons (.var 0) (.cons (.var 1) .nil))) [some (natD n), some v, none, none] st = .ok (.lst (CL n (cntN n l))) st := by
    simp only [evE, evL, List.getElem?_cons_zero, List.getElem?_cons_succ, ok_bind, callE, c2]
  have e3 := lstf (cf := callF k00.T (k + 5)) (i := 3) (c := .cmp .gt (.ix (.var 2) (.var 3)) (.cst (.int 0))) (env := [some (natD n), some v, some (.lst (CL n (cntN n l))), none]) (p := fun s => Nat.blt 0 (cntN n l s)) (st := st) (l := List.range (2 ^ n)) (by rw [rg_is h _ 0 _ _ rfl, rng0]) (by simp) (fun s hs st => by
    have og : ∀ m, opg st (some (natD m)) = .ok (natD m) st := fun m => rfl
    have ri : resolve st (.int 0) = .int 0 := rfl
    have eq : ∀ x, cmpD .gt (natD x) (.int 0) = some (Nat.blt 0 x) := fun x => rfl
    simp only [evE, List.set_cons_succ, List.set_cons_zero, List.getElem?_cons_zero, List.getElem?_cons_succ, ok_bind, rl_is, rn_is, ix_cl (List.mem_range.mp hs), og, ri, eq, Option.map_some, opt_some]) (range_len h)
  rw [callF]
  simp only [T, runFn, f1, f2, f3, b, List.length_cons, List.length_nil, Nat.reduceAdd, if_true, st0]
  rw [sqS e1, sqS (setI e2)]
  simp only [List.set_cons_succ, List.set_cons_zero]
  rw [evS, evS, tup1 e3]
  try rfl
theorem shrunk40 : callF k00.T (k + 6) 40 [natD n, v] st = .ok (.tup (((List.range (2 ^ n)).filter fun s => Nat.blt 0 (cntO n l s)).map natD)) st := by
  have T : k00.T[40]? = some k00.f40 := rfl
  have st0 : start 4 [natD n, v] = [some (natD n), some v, none, none] := rfl
  have b : k00.f40.body = .seq (.expr (.call 17 (.cons (.var 0) (.cons (.var 1) .nil)))) (.seq (.set (.var 2) (.call 36 (.cons (.var 0) (.cons (.var 1) .nil)))) (.seq (.ret (.prim .tuple (.cons (.comp (.var 3) [3] (.var 3) (.prim .range1 (.cons (.bin .shl (.cst (.int 1)) (.var 0)) .nil)) (.cmp .gt (.ix (.var 2) (.var 3)) (.cst (.int 0)))) .nil))) .nil)) := by kernel_rfl
  have f1 : k00.f40.keep = true := rfl
  have f2 : k00.f40.ps = 2 := rfl
  have f3 : k00.f40.sl = 4 := rfl
  have lt := ris_lt h l hr
  have c1 : ∀ st, callF k00.T (k + 5) 17 [natD n, v] st = .ok .none st := fun st => chk17 h k v l hv hr st
  have c2 : ∀ st, callF k00.T (k + 5) 36 [natD n, v] st = .ok (.lst (CL n (cntO n l))) st := fun st => over36 h (k + 3) v l hv lt hn st
  have e1 : evS (callF k00.T (k + 5)) (.expr (.call 17 (.cons (.var 0) (.cons (.var 1) .nil)))) [some (natD n), some v, none, none] st = .ok (.nx [some (natD n), some v, none, none]) st := by
    simp only [evS, evE, evL, List.getElem?_cons_zero, List.getElem?_cons_succ, ok_bind, callE, c1]
  have e2 : evE (callF k00.T (k + 5)) (.call 36 (.cons (.var 0) (.cons (.var 1) .nil))) [some (natD n), some v, none, none] st = .ok (.lst (CL n (cntO n l))) st := by
    simp only [evE, evL, List.getElem?_cons_zero, List.getElem?_cons_succ, ok_bind, callE, c2]
  have e3 := lstf (cf := callF k00.T (k + 5)) (i := 3) (c := .cmp .gt (.ix (.var 2) (.var 3)) (.cst (.int 0))) (env := [some (natD n), some v, some (.lst (CL n (cntO n l))), none]) (p := fun s => Nat.blt 0 (cntO n l s)) (st := st) (l := List.range (2 ^ n)) (by rw [rg_is h _ 0 _ _ rfl, rng0]) (by simp) (fun s hs st => by
    have og : ∀ m, opg st (some (natD m)) = .ok (natD m) st := fun m => rfl
    have ri : resolve st (.int 0) = .int 0 := rfl
    have eq : ∀ x, cmpD .gt (natD x) (.int 0) = some (Nat.blt 0 x) := fun x => rfl
    simp only [evE, List.set_cons_succ, List.set_cons_zero, List.getElem?_cons_zero, List.getElem?_cons_succ, ok_bind, rl_is, rn_is, ix_cl (List.mem_range.mp hs), og, ri, eq, Option.map_some, opt_some]) (range_len h)
  rw [callF]
  simp only [T, runFn, f1, f2, f3, b, List.length_cons, List.length_nil, Nat.reduceAdd, if_true, st0]
  rw [sqS e1, sqS (setI e2)]
  simp only [List.set_cons_succ, List.set_cons_zero]
  rw [evS, evS, tup1 e3]
  try rfl
omit h hv hr hn in
theorem or_loop (cf : CallF) (a0 a1 : Option D) : ∀ (l : List Nat) (m : Nat) (a3 : Option D), ∃ b3, forL (fun x env st => match setTg (.var 3) x env with
    | some env' => evS cf (.seq (.aug 2 .bor (.var 3)) .nil) env' st
    | .none => .stuck) (l.map natD) [a0, a1, some (natD m), a3] st = .ok (.nx [a0, a1, some (natD (orL m l)), b3]) st
  | [], m, a3 => ⟨a3, rfl⟩
  | s :: r, m, a3 => by
    obtain ⟨b3, ih⟩ := or_loop cf a0 a1 r (Nat.lor m s) (some (natD s))
    exact ⟨b3, ih⟩
omit h hv hr hn in
theorem and_loop (cf : CallF) (a0 a1 : Option D) : ∀ (l : List Nat) (m : Nat) (a3 : Option D), ∃ b3, forL (fun x env st => match setTg (.var 3) x env with
    | some env' => evS cf (.seq (.aug 2 .band (.var 3)) .nil) env' st
    | .none => .stuck) (l.map natD) [a0, a1, some (natD m), a3] st = .ok (.nx [a0, a1, some (natD (andL m l)), b3]) st
  | [], m, a3 => ⟨a3, rfl⟩
  | s :: r, m, a3 => by
    obtain ⟨b3, ih⟩ := and_loop cf a0 a1 r (Nat.land m s) (some (natD s))
    exact ⟨b3, ih⟩
theorem least41 : callF k00.T (k + 6) 41 [natD n, v] st = .ok (natD (orL 0 l)) st := by
  have T : k00.T[41]? = some k00.f41 := rfl
  have st0 : start 4 [natD n, v] = [some (natD n), some v, none, none] := rfl
  have b : k00.f41.body = .seq (.expr (.call 17 (.cons (.var 0) (.cons (.var 1) .nil)))) (.seq (.set (.var 2) (.cst (.int 0))) (.seq (.for (.var 3) (.var 1) (.seq (.aug 2 .bor (.var 3)) .nil)) (.seq (.ret (.var 2)) .nil))) := by kernel_rfl
  have f1 : k00.f41.keep = true := rfl
  have f2 : k00.f41.ps = 2 := rfl
  have f3 : k00.f41.sl = 4 := rfl
  have c1 : ∀ st, callF k00.T (k + 5) 17 [natD n, v] st = .ok .none st := fun st => chk17 h k v l hv hr st
  have e1 : evS (callF k00.T (k + 5)) (.expr (.call 17 (.cons (.var 0) (.cons (.var 1) .nil)))) [some (natD n), some v, none, none] st = .ok (.nx [some (natD n), some v, none, none]) st := by
    simp only [evS, evE, evL, List.getElem?_cons_zero, List.getElem?_cons_succ, ok_bind, callE, c1]
  obtain ⟨b3, lp⟩ := or_loop st (callF k00.T (k + 5)) (some (natD n)) (some v) l 0 none
  have e2 : evS (callF k00.T (k + 5)) (.for (.var 3) (.var 1) (.seq (.aug 2 .bor (.var 3)) .nil)) [some (natD n), some v, some (.int 0), none] st = .ok (.nx [some (natD n), some v, some (natD (orL 0 l)), b3]) st := by
    rw [evS, src_var (i := 1) rfl hv]
    exact lp
  rw [callF]
  simp only [T, runFn, f1, f2, f3, b, List.length_cons, List.length_nil, Nat.reduceAdd, if_true, st0]
  rw [sqS e1, sqS (setI (d := .int 0) rfl)]
  simp only [List.set_cons_succ, List.set_cons_zero]
  rw [sqS e2]
  try rfl
theorem most42 : callF k00.T (k + 6) 42 [natD n, v] st = .ok (natD (andL (lastN n) l)) st := by
  have T : k00.T[42]? = some k00.f42 := rfl
  have st0 : start 4 [natD n, v] = [some (natD n), some v, none, none] := rfl
  have b : k00.f42.body = .seq (.expr (.call 17 (.cons (.var 0) (.cons (.var 1) .nil)))) (.seq (.set (.var 2) (.bin .sub (.bin .shl (.cst (.int 1)) (.var 0)) (.cst (.int 1)))) (.seq (.for (.var 3) (.var 1) (.seq (.aug 2 .band (.var 3)) .nil)) (.seq (.ret (.var 2)) .nil))) := by kernel_rfl
  have f1 : k00.f42.keep = true := rfl
  have f2 : k00.f42.ps = 2 := rfl
  have f3 : k00.f42.sl = 4 := rfl
  have c1 : ∀ st, callF k00.T (k + 5) 17 [natD n, v] st = .ok .none st := fun st => chk17 h k v l hv hr st
  have e1 : evS (callF k00.T (k + 5)) (.expr (.call 17 (.cons (.var 0) (.cons (.var 1) .nil)))) [some (natD n), some v, none, none] st = .ok (.nx [some (natD n), some v, none, none]) st := by
    simp only [evS, evE, evL, List.getElem?_cons_zero, List.getElem?_cons_succ, ok_bind, callE, c1]
  obtain ⟨b3, lp⟩ := and_loop st (callF k00.T (k + 5)) (some (natD n)) (some v) l (lastN n) none
  have e2 : evS (callF k00.T (k + 5)) (.for (.var 3) (.var 1) (.seq (.aug 2 .band (.var 3)) .nil)) [some (natD n), some v, some (natD (lastN n)), none] st = .ok (.nx [some (natD n), some v, some (natD (andL (lastN n) l)), b3]) st := by
    rw [evS, src_var (i := 1) rfl hv]
    exact lp
  rw [callF]
  simp only [T, runFn, f1, f2, f3, b, List.length_cons, List.length_nil, Nat.reduceAdd, if_true, st0]
  rw [sqS e1, sqS (setI (lastE h _ 0 _ _ rfl))]
  simp only [List.set_cons_succ, List.set_cons_zero]
  rw [sqS e2]
  try rfl
end
end K0
end Py
end
section
set_option Elab.async false
set_option linter.all false
set_option maxRecDepth 100000
set_option maxHeartbeats 1000000
namespace Py
namespace K0
/-! ### law_set -/
theorem truth_any {l : List Nat} {q : Nat → Bool} : truth (.lst ((l.filter q).map natD)) = some (l.any q) := by
  induction l with
  | nil => rfl
  | cons s r ih =>
    rw [List.filter_cons, List.any_cons]
    cases q s with
    | true => rfl
    | false => exact ih
theorem andT {cf : CallF} {x y : Ex} {env : Env} {st : Store} {o : Out D} (h1 : evE cf x env st = .ok (.bl true) st) (h2 : evE cf y env st = o) : evE cf (.and x y) env st = o := by
  rw [evE, h1]
  exact h2
theorem notL {cf : CallF} {x : Ex} {env : Env} {st : Store} {l : List Nat} {q : Nat → Bool} (h : evE cf x env st = .ok (.lst ((l.filter q).map natD)) st) : evE cf (.not x) env st = .ok (.bl !(l.any q)) st := by
  rw [evE, h]
  simp only [ok_bind, rl_is, truth_any, Option.map_some, opt_some]
def inn1 : Ex := .comp (.var 4) [4] (.var 4) (.var 1) (.and (.cmp .ne (.var 4) (.var 3)) (.call 48 (.cons (.var 0) (.cons (.var 4) (.cons (.var 3) .nil)))))
def inn2 : Ex := .comp (.var 4) [4] (.var 4) (.var 1) (.and (.cmp .ne (.var 4) (.var 3)) (.call 48 (.cons (.var 0) (.cons (.var 3) (.cons (.var 4) .nil)))))
def inn3 : Ex := .comp (.var 4) [4] (.var 4) (.var 1) (.call 48 (.cons (.var 0) (.cons (.var 4) (.cons (.var 3) .nil))))
def inn4 : Ex := .comp (.var 4) [4] (.var 4) (.var 1) (.call 48 (.cons (.var 0) (.cons (.var 3) (.cons (.var 4) .nil))))
def inn5 : Ex := .comp (.var 3) [3] (.var 3) (.var 1) (.cmp .isin (.var 7) (.call 46 (.cons (.var 0) (.cons (.var 3) .nil))))
def inn6 : Ex := .comp (.var 3) [3] (.var 3) (.var 1) (.cmp .notin (.var 7) (.call 46 (.cons (.var 0) (.cons (.var 3) .nil))))
theorem body52 : k00.f52.body = .seq (.set (.var 2) (.comp (.var 3) [3] (.var 3) (.var 1) (.not inn1))) (.seq (.set (.var 5) (.comp (.var 3) [3] (.var 3) (.var 1) (.not inn2)))
  (.seq (.ite (.or (.not (.call 45 (.cons (.call 34 (.cons (.var 0) (.cons (.var 1) .nil))) (.cons (.cst (.bl true)) .nil)))) (.or (.not (.call 45 (.cons (.call 37 (.cons (.var 0) (.cons (.var 1) .nil))) (.cons (.prim .tuple (.cons (.var 2) .nil)) .nil)))) (.not (.call 45 (.cons (.call 38 (.cons (.var 0) (.cons (.var 1) .nil))) (.cons (.prim .tuple (.cons (.var 5) .nil)) .nil)))))) (.seq (.ret (.cst (.bl false))) .nil) .nil)
  (.seq (.ite (.not (.call 45 (.cons (.call 39 (.cons (.var 0) (.cons (.var 1) .nil))) (.cons (.prim .tuple (.cons (.comp (.var 3) [3] (.var 3) (.call 49 (.cons (.var 0) .nil)) inn3) .nil)) .nil)))) (.seq (.ret (.cst (.bl false))) .nil) .nil)
  (.seq (.ite (.not (.call 45 (.cons (.call 40 (.cons (.var 0) (.cons (.var 1) .nil))) (.cons (.prim .tuple (.cons (.comp (.var 3) [3] (.var 3) (.call 49 (.cons (.var 0) .nil)) inn4) .nil)) .nil)))) (.seq (.ret (.cst (.bl false))) .nil) .nil)
  (.seq (.set (.var 6) (.comp (.var 7) [7] (.var 7) (.prim .range1 (.cons (.var 0) .nil)) inn5))
  (.seq (.set (.var 8) (.comp (.var 7) [7] (.var 7) (.prim .range1 (.cons (.var 0) .nil)) (.not inn6)))
  (.seq (.ret (.and (.call 45 (.cons (.call 41 (.cons (.var 0) (.cons (.var 1) .nil))) (.cons (.call 47 (.cons (.var 6) .nil)) .nil))) (.call 45 (.cons (.call 42 (.cons (.var 0) (.cons (.prim .list (.cons (.var 1) .nil)) .nil))) (.cons (.call 47 (.cons (.var 8) .nil)) .nil))))) .nil))))))) := by kernel_rfl
section
variable {n : Nat} (h : Sz n) (l : List Nat) (hr : risN (lastN n) 0 l = true) (hn : l.length ≤ 4096) (a2 a4 a5 a6 a7 a8 : Option D)
include h hr hn
theorem inn1_is (s : Nat) (hs : s < 2 ^ n) (st : Store) : evE (callF k00.T 10) inn1 [some (natD n), some (.tup (l.map natD)), a2, some (natD s), a4, a5, a6, a7, a8] st = .ok (.lst ((l.filter fun t => !Nat.beq t s && landB t s).map natD)) st := by
  have lt := ris_lt h l hr
  refine lstf (src_var (i := 1) rfl (Or.inl rfl)) (by simp) (fun t ht st => ?_) hn
  have c : ∀ st, callF k00.T 10 48 [natD n, natD t, natD s] st = .ok (.bl (landB t s)) st := fun st => grow_is h 8 t s st (lt t ht) hs
  have ne : cmpD .ne (natD t) (natD s) = some (!Nat.beq t s) := rfl
  simp only [evE, evL, List.set_cons_succ, List.set_cons_zero, List.getElem?_cons_zero, List.getElem?_cons_succ, ok_bind, rn_is, ne, Option.map_some, opt_some, rb_is, truth, callE, c]
  cases Nat.beq t s <;> rfl
theorem inn2_is (s : Nat) (hs : s < 2 ^ n) (st : Store) : evE (callF k00.T 10) inn2 [some (natD n), some (.tup (l.map natD)), a2, some (natD s), a4, a5, a6, a7, a8] st = .ok (.lst ((l.filter fun t => !Nat.beq t s && landB s t).map natD)) st := by
  have lt := ris_lt h l hr
  refine lstf (src_var (i := 1) rfl (Or.inl rfl)) (by simp) (fun t ht st => ?_) hn
  have c : ∀ st, callF k00.T 10 48 [natD n, natD s, natD t] st = .ok (.bl (landB s t)) st := fun st => grow_is h 8 s t st hs (lt t ht)
  have ne : cmpD .ne (natD t) (natD s) = some (!Nat.beq t s) := rfl
  simp only [evE, evL, List.set_cons_succ, List.set_cons_zero, List.getElem?_cons_zero, List.getElem?_cons_succ, ok_bind, rn_is, ne, Option.map_some, opt_some, rb_is, truth, callE, c]
  cases Nat.beq t s <;> rfl
theorem inn3_is (s : Nat) (hs : s < 2 ^ n) (st : Store) : evE (callF k00.T 10) inn3 [some (natD n), some (.tup (l.map natD)), a2, some (natD s), a4, a5, a6, a7, a8] st = .ok (.lst ((l.filter fun t => landB t s).map natD)) st := by
  have lt := ris_lt h l hr
  refine lstf (src_var (i := 1) rfl (Or.inl rfl)) (by simp) (fun t ht st => ?_) hn
  have c : ∀ st, callF k00.T 10 48 [natD n, natD t, natD s] st = .ok (.bl (landB t s)) st := fun st => grow_is h 8 t s st (lt t ht) hs
  simp only [evE, evL, List.set_cons_succ, List.set_cons_zero, List.getElem?_cons_zero, List.getElem?_cons_succ, ok_bind, callE, c]
theorem inn4_is (s : Nat) (hs : s < 2 ^ n) (st : Store) : evE (callF k00.T 10) inn4 [some (natD n), some (.tup (l.map natD)), a2, some (natD s), a4, a5, a6, a7, a8] st = .ok (.lst ((l.filter fun t => landB s t).map natD)) st := by
  have lt := ris_lt h l hr
  refine lstf (src_var (i := 1) rfl (Or.inl rfl)) (by simp) (fun t ht st => ?_) hn
  have c : ∀ st, callF k00.T 10 48 [natD n, natD s, natD t] st = .ok (.bl (landB s t)) st := fun st => grow_is h 8 s t st hs (lt t ht)
  simp only [evE, evL, List.set_cons_succ, List.set_cons_zero, List.getElem?_cons_zero, List.getElem?_cons_succ, ok_bind, callE, c]
theorem inn5_is (a3 : Option D) (m : Nat) (st : Store) : evE (callF k00.T 10) inn5 [some (natD n), some (.tup (l.map natD)), a2, a3, a4, a5, a6, some (natD m), a8] st = .ok (.lst ((l.filter fun s => inB n s m).map natD)) st := by
  refine lstf (src_var (i := 1) rfl (Or.inl rfl)) (by simp) (fun t ht st => ?_) hn
  have c : ∀ st, callF k00.T 10 46 [natD n, natD t] st = .ok (.lst (cellsM n t)) st := fun st => cells46 h 9 t st
  have e : cmpD .isin (natD m) (.lst (cellsM n t)) = some (inB n t m) := by
    show anyEq _ _ = _
    unfold anyEq
    rw [okD_cells]
    try rfl
  simp only [evE, evL, List.set_cons_succ, List.set_cons_zero, List.getElem?_cons_zero, List.getElem?_cons_succ, ok_bind, callE, c, rl_is, rn_is, e, Option.map_some, opt_some]
theorem inn6_is (a3 : Option D) (m : Nat) (st : Store) : evE (callF k00.T 10) inn6 [some (natD n), some (.tup (l.map natD)), a2, a3, a4, a5, a6, some (natD m), a8] st = .ok (.lst ((l.filter fun s => !inB n s m).map natD)) st := by
  refine lstf (src_var (i := 1) rfl (Or.inl rfl)) (by simp) (fun t ht st => ?_) hn
  have c : ∀ st, callF k00.T 10 46 [natD n, natD t] st = .ok (.lst (cellsM n t)) st := fun st => cells46 h 9 t st
  have e : cmpD .notin (natD m) (.lst (cellsM n t)) = some (!inB n t m) := by
    show (anyEq _ _).map not = _
    unfold anyEq
    rw [okD_cells]
    try rfl
  simp only [evE, evL, List.set_cons_succ, List.set_cons_zero, List.getElem?_cons_zero, List.getElem?_cons_succ, ok_bind, callE, c, rl_is, rn_is, e, Option.map_some, opt_some]
theorem set52 (st : Store) : callF k00.T 11 52 [natD n, .tup (l.map natD)] st = .ok (.bl true) st := by
  have T : k00.T[52]? = some k00.f52 := rfl
  have st0 : start 9 [natD n, .tup (l.map natD)] = [some (natD n), some (.tup (l.map natD)), none, none, none, none, none, none, none] := rfl
  have f1 : k00.f52.keep = true := rfl
  have f2 : k00.f52.ps = 2 := rfl
  have f3 : k00.f52.sl = 9 := rfl
  have lt := ris_lt h l hr
  have hv : isSeqN (.tup (l.map natD)) l := Or.inl rfl
  have c34 : callF k00.T 10 34 [natD n, .tup (l.map natD)] st = .ok (.bl true) st := by
    rw [isset34 h 5 _ l hv, hr]
  have c37 : callF k00.T 10 37 [natD n, .tup (l.map natD)] st = .ok (.tup ((l.filter fun s => !(l.any fun t => !Nat.beq t s && landB t s)).map natD)) st := by
    rw [low37 h 4 _ l hv hr hn, List.filter_congr fun s hs => cnt_one h (lt s hs) lt hs]
  have c38 : callF k00.T 10 38 [natD n, .tup (l.map natD)] st = .ok (.tup ((l.filter fun s => !(l.any fun t => !Nat.beq t s && landB s t)).map natD)) st := by
    rw [high38 h 4 _ l hv hr hn, List.filter_congr fun s hs => cntO_one h (lt s hs) lt hs]
  have c39 : callF k00.T 10 39 [natD n, .tup (l.map natD)] st = .ok (.tup (((List.range (2 ^ n)).filter fun s => l.any fun t => landB t s).map natD)) st := by
    rw [grown39 h 4 _ l hv hr hn, List.filter_congr fun s hs => cnt_pos h (List.mem_range.mp hs) lt]
  have c40 : callF k00.T 10 40 [natD n, .tup (l.map natD)] st = .ok (.tup (((List.range (2 ^ n)).filter fun s => l.any fun t => landB s t).map natD)) st := by
    rw [shrunk40 h 4 _ l hv hr hn, List.filter_congr fun s hs => cntO_pos h (List.mem_range.mp hs) lt]
  have c41 : callF k00.T 10 41 [natD n, .tup (l.map natD)] st = .ok (natD (orL 0 l)) st := least41 h 4 _ l hv hr hn st
  have c42 : callF k00.T 10 42 [natD n, .lst (l.map natD)] st = .ok (natD (andL (lastN n) l)) st := most42 h 4 _ l (Or.inr rfl) hr hn st
  have si : ∀ m, callF k00.T 10 45 [natD m, natD m] st = .ok (.bl true) st := fun m => by
    have := same_int 9 (.ofNat m) (.ofNat m) st
    rw [ieq_self] at this
    exact this
  have fl : ∀ p : Nat → Bool, (l.filter p).length ≤ 4096 := fun p => Nat.le_trans (List.length_filter_le _ _) hn
  have kl : ∀ p : Nat → Bool, ((List.range n).filter p).length ≤ 4096 := fun p => by
    have := List.length_filter_le p (List.range n)
    rw [List.length_range] at this
    have := h.2
    omega
  have k12 : ∀ p : Nat → Bool, ∀ m ∈ (List.range n).filter p, m < 12 := fun p m hm => by
    have := List.mem_range.mp (List.mem_filter.mp hm).1
    have := h.2
    omega
  have c47a : callF k00.T 10 47 [.lst (((List.range n).filter fun k => l.any fun s => inB n s k).map natD)] st = .ok (natD (orL 0 l)) st := by
    rw [← least_sum h lt]
    exact state_is 9 _ (k12 _) (kl _) st
  have c47b : callF k00.T 10 47 [.lst (((List.range n).filter fun k => !l.any fun s => !inB n s k).map natD)] st = .ok (natD (andL (lastN n) l)) st := by
    rw [← most_sum h lt]
    exact state_is 9 _ (k12 _) (kl _) st
  have rg : ∀ env : Env, env[0]? = some (some (natD n)) → srcL (evE (callF k00.T 10) (.prim .range1 (.cons (.var 0) .nil)) env st) = .ok ((List.range n).map natD) st := fun env he => by
    rw [rgN h _ 0 _ _ he, ← List.range_eq_range']
  have s49 : ∀ env : Env, env[0]? = some (some (natD n)) → srcL (evE (callF k00.T 10) (.call 49 (.cons (.var 0) .nil)) env st) = .ok ((List.range (2 ^ n)).map natD) st := fun env he => by
    have c : callF k00.T 10 49 [natD n] st = .ok (.lst (rng 0 (2 ^ n))) st := all_is h 9 st
    simp only [evE, evL, he, ok_bind, callE, c, srcL, esc, srcOf, opt_some, rng0]
  -- the statements
  have e0 := lstf (cf := callF k00.T 10) (i := 3) (c := .not inn1) (env := [some (natD n), some (.tup (l.map natD)), none, none, none, none, none, none, none]) (st := st) (src_var (i := 1) rfl hv) (by simp) (fun s hs st => notL (inn1_is h l hr hn none none none none none none s (lt s hs) st)) hn
  have e1 := lstf (cf := callF k00.T 10) (i := 3) (c := .not inn2) (env := [some (natD n), some (.tup (l.map natD)), some (.lst ((l.filter fun s => !(l.any fun t => !Nat.beq t s && landB t s)).map natD)), none, none, none, none, none, none]) (st := st) (src_var (i := 1) rfl hv) (by simp) (fun s hs st => notL (inn2_is h l hr hn _ none none none none none s (lt s hs) st)) hn
  rw [callF]
  simp only [T, runFn, f1, f2, f3, body52, List.length_cons, List.length_nil, Nat.reduceAdd, if_true, st0]
  rw [sqS (setI e0)]
  simp only [List.set_cons_succ, List.set_cons_zero]
  rw [sqS (setI e1)]
  simp only [List.set_cons_succ, List.set_cons_zero]
  generalize hL : some (D.lst ((l.filter fun s => !(l.any fun t => !Nat.beq t s && landB t s)).map natD)) = L
  generalize hH : some (D.lst ((l.filter fun s => !(l.any fun t => !Nat.beq t s && landB s t)).map natD)) = H
  have s2 : evS (callF k00.T 10) (.ite (.or (.not (.call 45 (.cons (.call 34 (.cons (.var 0) (.cons (.var 1) .nil))) (.cons (.cst (.bl true)) .nil)))) (.or (.not (.call 45 (.cons (.call 37 (.cons (.var 0) (.cons (.var 1) .nil))) (.cons (.prim .tuple (.cons (.var 2) .nil)) .nil)))) (.not (.call 45 (.cons (.call 38 (.cons (.var 0) (.cons (.var 1) .nil))) (.cons (.prim .tuple (.cons (.var 5) .nil)) .nil)))))) (.seq (.ret (.cst (.bl false))) .nil) .nil) [some (natD n), some (.tup (l.map natD)), L, none, none, H, none, none, none] st = .ok (.nx [some (natD n), some (.tup (l.map natD)), L, none, none, H, none, none, none]) st := by
    have x34 : evE (callF k00.T 10) (.call 34 (.cons (.var 0) (.cons (.var 1) .nil))) [some (natD n), some (.tup (l.map natD)), L, none, none, H, none, none, none] st = .ok (.bl true) st := by
      simp only [evE, evL, List.getElem?_cons_zero, List.getElem?_cons_succ, ok_bind, callE, c34]
    have x37 : evE (callF k00.T 10) (.call 37 (.cons (.var 0) (.cons (.var 1) .nil))) [some (natD n), some (.tup (l.map natD)), L, none, none, H, none, none, none] st = .ok (.tup ((l.filter fun s => !(l.any fun t => !Nat.beq t s && landB t s)).map natD)) st := by
      simp only [evE, evL, List.getElem?_cons_zero, List.getElem?_cons_succ, ok_bind, callE, c37]
    have x38 : evE (callF k00.T 10) (.call 38 (.cons (.var 0) (.cons (.var 1) .nil))) [some (natD n), some (.tup (l.map natD)), L, none, none, H, none, none, none] st = .ok (.tup ((l.filter fun s => !(l.any fun t => !Nat.beq t s && landB s t)).map natD)) st := by
      simp only [evE, evL, List.getElem?_cons_zero, List.getElem?_cons_succ, ok_bind, callE, c38]
    have y37 : evE (callF k00.T 10) (.prim .tuple (.cons (.var 2) .nil)) [some (natD n), some (.tup (l.map natD)), L, none, none, H, none, none, none] st = .ok (.tup ((l.filter fun s => !(l.any fun t => !Nat.beq t s && landB t s)).map natD)) st := by
      subst hL
      exact tup1 rfl
    have y38 : evE (callF k00.T 10) (.prim .tuple (.cons (.var 5) .nil)) [some (natD n), some (.tup (l.map natD)), L, none, none, H, none, none, none] st = .ok (.tup ((l.filter fun s => !(l.any fun t => !Nat.beq t s && landB s t)).map natD)) st := by
      subst hH
      exact tup1 rfl
    exact iteF (orF (notF (callSame x34 rfl (same_bl 9 true true st))) (orF (notF (callSame x37 y37 (same_tup 8 _ (fl _) st))) (notF (callSame x38 y38 (same_tup 8 _ (fl _) st)))))
  rw [sqS s2]
  have e3 := tup1 (lstT (cf := callF k00.T 10) (i := 3) (c := inn3) (env := [some (natD n), some (.tup (l.map natD)), L, none, none, H, none, none, none]) (p := fun s => l.any fun t => landB t s) (st := st) (s49 _ rfl) (by simp) (fun s hs st => ⟨_, inn3_is h l hr hn L none H none none none s (List.mem_range.mp hs) st, truth_any⟩) (range_len h))
  have e4 := tup1 (lstT (cf := callF k00.T 10) (i := 3) (c := inn4) (env := [some (natD n), some (.tup (l.map natD)), L, none, none, H, none, none, none]) (p := fun s => l.any fun t => landB s t) (st := st) (s49 _ rfl) (by simp) (fun s hs st => ⟨_, inn4_is h l hr hn L none H none none none s (List.mem_range.mp hs) st, truth_any⟩) (range_len h))
  have x39 : evE (callF k00.T 10) (.call 39 (.cons (.var 0) (.cons (.var 1) .nil))) [some (natD n), some (.tup (l.map natD)), L, none, none, H, none, none, none] st = .ok (.tup (((List.range (2 ^ n)).filter fun s => l.any fun t => landB t s).map natD)) st := by
    simp only [evE, evL, List.getElem?_cons_zero, List.getElem?_cons_succ, ok_bind, callE, c39]
  have x40 : evE (callF k00.T 10) (.call 40 (.cons (.var 0) (.cons (.var 1) .nil))) [some (natD n), some (.tup (l.map natD)), L, none, none, H, none, none, none] st = .ok (.tup (((List.range (2 ^ n)).filter fun s => l.any fun t => landB s t).map natD)) st := by
    simp only [evE, evL, List.getElem?_cons_zero, List.getElem?_cons_succ, ok_bind, callE, c40]
  rw [sqS (iteNot (callSame x39 e3 (same_tup 8 _ (filter_len h _) st))), sqS (iteNot (callSame x40 e4 (same_tup 8 _ (filter_len h _) st)))]
  have e5 := lstT (cf := callF k00.T 10) (i := 7) (c := inn5) (env := [some (natD n), some (.tup (l.map natD)), L, none, none, H, none, none, none]) (p := fun k => l.any fun s => inB n s k) (st := st) (rg _ rfl) (by simp) (fun m hm st => ⟨_, inn5_is h l hr hn L none H none none none m st, truth_any⟩) (by rw [List.length_range]; have := h.2; omega)
  rw [sqS (setI e5)]
  simp only [List.set_cons_succ, List.set_cons_zero]
  have e6 := lstf (cf := callF k00.T 10) (i := 7) (c := .not inn6) (env := [some (natD n), some (.tup (l.map natD)), L, none, none, H, some (.lst (((List.range n).filter fun k => l.any fun s => inB n s k).map natD)), none, none]) (p := fun k => !l.any fun s => !inB n s k) (st := st) (rg _ rfl) (by simp) (fun m hm st => notL (inn6_is h l hr hn L none H _ none none m st)) (by rw [List.length_range]; have := h.2; omega)
  rw [sqS (setI e6)]
  simp only [List.set_cons_succ, List.set_cons_zero]
  generalize hA : some (D.lst (((List.range n).filter fun k => l.any fun s => inB n s k).map natD)) = A
  generalize hB : some (D.lst (((List.range n).filter fun k => !l.any fun s => !inB n s k).map natD)) = B
  have ea : evE (callF k00.T 10) (.call 47 (.cons (.var 6) .nil)) [some (natD n), some (.tup (l.map natD)), L, none, none, H, A, none, B] st = .ok (natD (orL 0 l)) st := by
    subst hA
    simp only [evE, evL, List.getElem?_cons_zero, List.getElem?_cons_succ, ok_bind, callE, c47a]
  have eb : evE (callF k00.T 10) (.call 47 (.cons (.var 8) .nil)) [some (natD n), some (.tup (l.map natD)), L, none, none, H, A, none, B] st = .ok (natD (andL (lastN n) l)) st := by
    subst hB
    simp only [evE, evL, List.getElem?_cons_zero, List.getElem?_cons_succ, ok_bind, callE, c47b]
  have x41 : evE (callF k00.T 10) (.call 41 (.cons (.var 0) (.cons (.var 1) .nil))) [some (natD n), some (.tup (l.map natD)), L, none, none, H, A, none, B] st = .ok (natD (orL 0 l)) st := by
    simp only [evE, evL, List.getElem?_cons_zero, List.getElem?_cons_succ, ok_bind, callE, c41]
  have x42 : evE (callF k00.T 10) (.call 42 (.cons (.var 0) (.cons (.prim .list (.cons (.var 1) .nil)) .nil))) [some (natD n), some (.tup (l.map natD)), L, none, none, H, A, none, B] st = .ok (natD (andL (lastN n) l)) st := by
    rw [evE, evL2 (d := natD n) (e := .lst (l.map natD)) rfl (list1 rfl)]
    exact c42
  rw [evS, evS, andT (callSame x41 ea (si _)) (callSame x42 eb (si _))]
  try rfl
end
end K0
end Py
end
section
set_option Elab.async false
set_option linter.all false
set_option maxRecDepth 100000
set_option maxHeartbeats 1000000
namespace Py
namespace K0
/-! ### the law -/
theorem told53 : callF k00.T 11 53 [] [] = .ok (.bl true) [] := by kernel_rfl
section
variable (cf : CallF) (a0 a1 a2 a3 a4 a5 a6 a7 a8 a9 a10 : Option D)
theorem q0 (ns : List Int) (r : Nat) (st : Store) : ∃ s, evS (callF k00.T 11) (lawS 0) [some (.ro (ns.map .int)), some (natD r), a2, a3, a4, a5, a6, a7, a8, a9, a10] st = .ok (.nx [some (.ro (ns.map .int)), some (natD r), some (.loc st.length), a3, a4, a5, a6, a7, a8, a9, a10]) (st ++ [drCell s]) := by
  have t : lawS 0 = .new 2 (.lst (.cons (.ix (.call 43 (.cons (.var 0) (.cons (.var 1) (.cons (.cst (.int 1)) .nil)))) (.cst (.int 0))) .nil)) := by kernel_rfl
  have c : ∀ st, callF k00.T 11 43 [.ro (ns.map .int), natD r, .int 1] st = .ok (.lst [.int (numOf (cellOf ns r) r)]) st := fun st => numbers_k00
  refine ⟨numOf (cellOf ns r) r, ?_⟩
  have e : evE (callF k00.T 11) (.ix (.call 43 (.cons (.var 0) (.cons (.var 1) (.cons (.cst (.int 1)) .nil)))) (.cst (.int 0))) [some (.ro (ns.map .int)), some (natD r), a2, a3, a4, a5, a6, a7, a8, a9, a10] st = .ok (.int (numOf (cellOf ns r) r)) st := by
    simp only [evE, evL, List.getElem?_cons_zero, List.getElem?_cons_succ, ok_bind, callE, c]
    try rfl
  have e2 : evE (callF k00.T 11) (.lst (.cons (.ix (.call 43 (.cons (.var 0) (.cons (.var 1) (.cons (.cst (.int 1)) .nil)))) (.cst (.int 0))) .nil)) [some (.ro (ns.map .int)), some (natD r), a2, a3, a4, a5, a6, a7, a8, a9, a10] st = .ok (.lst [.int (numOf (cellOf ns r) r)]) st := by
    rw [evE, evL, e]
    try rfl
  rw [t, evS, evN, e2]
  try rfl
variable {l : Nat} {s : Int} {st : Store} (hs : st[l]? = some (drCell s))
include hs
theorem q1 : ∃ n s', Sz n ∧ evS (callF k00.T 11) (lawS 1) [a0, a1, some (.loc l), a3, a4, a5, a6, a7, a8, a9, a10] st = .ok (.nx [a0, a1, some (.loc l), some (natD n), a4, a5, a6, a7, a8, a9, a10]) (st.set l (drCell s')) := by
  have t : lawS 1 = .set (.var 3) (.bin .add (.cst (.int 2)) (.call 44 (.cons (.var 2) (.cons (.cst (.int 5)) .nil)))) := by kernel_rfl
  obtain ⟨d, s', hd, e⟩ := draw44 (k := 10) (m := 5) hs (by decide)
  refine ⟨2 + d, s', ⟨by omega, by omega⟩, ?_⟩
  have e0 : evE (callF k00.T 11) (.call 44 (.cons (.var 2) (.cons (.cst (.int 5)) .nil))) [a0, a1, some (.loc l), a3, a4, a5, a6, a7, a8, a9, a10] st = .ok (natD d) (st.set l (drCell s')) := e
  have e1 : evE (callF k00.T 11) (.bin .add (.cst (.int 2)) (.call 44 (.cons (.var 2) (.cons (.cst (.int 5)) .nil)))) [a0, a1, some (.loc l), a3, a4, a5, a6, a7, a8, a9, a10] st = .ok (natD (2 + d)) (st.set l (drCell s')) := by
    have ec : evE (callF k00.T 11) (.cst (.int 2)) [a0, a1, some (.loc l), a3, a4, a5, a6, a7, a8, a9, a10] st = .ok (.int 2) st := rfl
    rw [evE, ec]
    simp only [ok_bind]
    rw [e0]
    try rfl
  rw [t, evS, e1]
  try rfl
theorem q2 {n : Nat} (h : Sz n) : ∃ a b s', a < 2 ^ n ∧ b < 2 ^ n ∧ evS (callF k00.T 11) (lawS 2) [a0, a1, some (.loc l), some (natD n), a4, a5, a6, a7, a8, a9, a10] st = .ok (.nx [a0, a1, some (.loc l), some (natD n), some (natD a), some (natD b), a6, a7, a8, a9, a10]) (st.set l (drCell s')) := by
  have t : lawS 2 = .par 4 false 5 false drE drE := by kernel_rfl
  obtain ⟨a, s1, ha, e1⟩ := dr_step h l s st hs a0 a1 a4 a5 a6 a7 a8 a9 a10
  obtain ⟨b, s2, hb, e2⟩ := dr_step h l s1 (st.set l (drCell s1)) (get_set hs) a0 a1 a4 a5 a6 a7 a8 a9 a10
  rw [set_same] at e2
  refine ⟨a, b, s2, ha, hb, ?_⟩
  rw [t, evS, evN, e1]
  simp only [ok_bind]
  rw [evN, e2]
  try rfl
theorem q3 {n a b : Nat} (h : Sz n) (ha : a < 2 ^ n) (hb : b < 2 ^ n) : ∃ b' s', b' < 2 ^ n ∧ evS (callF k00.T 11) (lawS 3) [a0, a1, some (.loc l), some (natD n), some (natD a), some (natD b), a6, a7, a8, a9, a10] st = .ok (.nx [a0, a1, some (.loc l), some (natD n), some (natD a), some (natD b'), a6, a7, a8, a9, a10]) (st.set l (drCell s')) := by
  have t : lawS 3 = .ite (.cmp .eq (.call 44 (.cons (.var 2) (.cons (.cst (.int 2)) .nil))) (.cst (.int 0))) (.seq (.set (.var 5) (.call 47 (.cons (.prim .sortedSet (.cons (.bin .add (.call 46 (.cons (.var 3) (.cons (.var 4) .nil))) (.call 46 (.cons (.var 3) (.cons (.var 5) .nil)))) .nil)) .nil))) .nil) .nil := by kernel_rfl
  obtain ⟨d, s', hd, e⟩ := draw44 (k := 10) (m := 2) hs (by decide)
  have e0 : evE (callF k00.T 11) (.call 44 (.cons (.var 2) (.cons (.cst (.int 2)) .nil))) [a0, a1, some (.loc l), some (natD n), some (natD a), some (natD b), a6, a7, a8, a9, a10] st = .ok (natD d) (st.set l (drCell s')) := e
  have e1 : evE (callF k00.T 11) (.cmp .eq (.call 44 (.cons (.var 2) (.cons (.cst (.int 2)) .nil))) (.cst (.int 0))) [a0, a1, some (.loc l), some (natD n), some (natD a), some (natD b), a6, a7, a8, a9, a10] st = .ok (.bl (Nat.beq d 0)) (st.set l (drCell s')) := by
    rw [evE, e0]
    try rfl
  cases hd0 : Nat.beq d 0 with
  | false =>
    refine ⟨b, s', hb, ?_⟩
    rw [t, evS, e1, hd0]
    try rfl
  | true =>
    refine ⟨Nat.lor a b, s', Nat.or_lt_two_pow ha hb, ?_⟩
    have c1 : ∀ st, callF k00.T 11 46 [natD n, natD a] st = .ok (.lst ((cellN n a).map natD)) st := fun st => by
      rw [← cells_nat]
      exact cells46 h 10 a st
    have c2 : ∀ st, callF k00.T 11 46 [natD n, natD b] st = .ok (.lst ((cellN n b).map natD)) st := fun st => by
      rw [← cells_nat]
      exact cells46 h 10 b st
    have l1 := cellN_len (n := n) (a := a) h
    have l2 := cellN_len (n := n) (a := b) h
    generalize st.set l (drCell s') = st' at e1
    have ad : opg st' (binD .add (.lst ((cellN n a).map natD)) (.lst ((cellN n b).map natD))) = .ok (.lst ((cellN n a ++ cellN n b).map natD)) st' := by
      have : ((cellN n a).map natD).length + ((cellN n b).map natD).length ≤ sizeMax := by
        have : sizeMax = 16777216 := rfl
        rw [List.length_map, List.length_map]
        omega
      simp only [binD, this, if_true, List.map_append]
      try rfl
    have x1 : evE (callF k00.T 11) (.call 46 (.cons (.var 3) (.cons (.var 4) .nil))) [a0, a1, some (.loc l), some (natD n), some (natD a), some (natD b), a6, a7, a8, a9, a10] st' = .ok (.lst ((cellN n a).map natD)) st' := c1 st'
    have x2 : evE (callF k00.T 11) (.call 46 (.cons (.var 3) (.cons (.var 5) .nil))) [a0, a1, some (.loc l), some (natD n), some (natD a), some (natD b), a6, a7, a8, a9, a10] st' = .ok (.lst ((cellN n b).map natD)) st' := c2 st'
    have x3 := binE (op := .add) x1 x2 ad
    have ss := sset_nat (l := cellN n a ++ cellN n b) (by rw [List.length_append]; omega)
    have x4 : evE (callF k00.T 11) (.prim .sortedSet (.cons (.bin .add (.call 46 (.cons (.var 3) (.cons (.var 4) .nil))) (.call 46 (.cons (.var 3) (.cons (.var 5) .nil)))) .nil)) [a0, a1, some (.loc l), some (natD n), some (natD a), some (natD b), a6, a7, a8, a9, a10] st' = .ok (.lst ((sortN (cellN n a ++ cellN n b)).map natD)) st' := by
      rw [evE, evL, x3]
      simp only [ok_bind, evL, List.map_cons, List.map_nil, rl_is, ss]
      try rfl
    have c47 : callF k00.T 11 47 [.lst ((sortN (cellN n a ++ cellN n b)).map natD)] st' = .ok (natD (Nat.lor a b)) st' := by
      rw [← (nums h ha hb).1]
      refine state_is 10 _ (fun m hm => ?_) ?_ st'
      · rcases List.mem_append.mp (sortN_mem hm) with hm | hm
        · exact cellN_lt h hm
        · exact cellN_lt h hm
      · have := sortN_len (cellN n a ++ cellN n b)
        rw [List.length_append] at this
        omega
    have x5 : evE (callF k00.T 11) (.call 47 (.cons (.prim .sortedSet (.cons (.bin .add (.call 46 (.cons (.var 3) (.cons (.var 4) .nil))) (.call 46 (.cons (.var 3) (.cons (.var 5) .nil)))) .nil)) .nil)) [a0, a1, some (.loc l), some (natD n), some (natD a), some (natD b), a6, a7, a8, a9, a10] st' = .ok (natD (Nat.lor a b)) st' := by
      rw [evE, evL, x4]
      exact c47
    rw [t, evS, e1, hd0]
    simp only [ok_bind, rb_is, truth]
    rw [sqS (setI x5)]
    try rfl
theorem q4 {n : Nat} (h : Sz n) : ∃ r s', r ∈ seatP n n ∧ evS (callF k00.T 11) (lawS 4) [a0, a1, some (.loc l), some (natD n), a4, a5, a6, a7, a8, a9, a10] st = .ok (.nx [a0, a1, some (.loc l), some (natD n), a4, a5, some (.tup (r.map natD)), a7, a8, a9, a10]) (st.set l (drCell s')) := by
  have t : lawS 4 = .set (.var 6) (.call 50 (.cons (.var 2) (.cons (.var 3) .nil))) := by kernel_rfl
  obtain ⟨r, s', hr, e⟩ := seats50 h 9 l s st hs
  refine ⟨r, s', hr, ?_⟩
  have e1 : evE (callF k00.T 11) (.call 50 (.cons (.var 2) (.cons (.var 3) .nil))) [a0, a1, some (.loc l), some (natD n), a4, a5, a6, a7, a8, a9, a10] st = .ok (.tup (r.map natD)) (st.set l (drCell s')) := e
  rw [t, evS, e1]
  try rfl
end
theorem q7 {n : Nat} (h : Sz n) (S : List Nat) (hr : risN (lastN n) 0 S = true) (hn : S.length ≤ 4096) (a0 a1 a2 a4 a5 a6 a7 a9 a10 : Option D) (st : Store) : evS (callF k00.T 11) (lawS 7) [a0, a1, a2, some (natD n), a4, a5, a6, a7, some (.tup (S.map natD)), a9, a10] st = .ok (.nx [a0, a1, a2, some (natD n), a4, a5, a6, a7, some (.tup (S.map natD)), a9, a10]) st := by
  have t : lawS 7 = .ite (.not (.call 52 (.cons (.var 3) (.cons (.var 8) .nil)))) (.seq (.ret (.cst (.bl false))) .nil) .nil := by kernel_rfl
  have c := set52 h S hr hn st
  rw [t]
  refine iteNot ?_
  simp only [evE, evL, List.getElem?_cons_zero, List.getElem?_cons_succ, ok_bind, callE, c]
theorem q8 {n : Nat} (h : Sz n) (a0 a1 a2 a4 a5 a6 a7 a8 a9 a10 : Option D) (st : Store) : evS (callF k00.T 11) (lawS 8) [a0, a1, a2, some (natD n), a4, a5, a6, a7, a8, a9, a10] st = .ok (.nx [a0, a1, a2, some (natD n), a4, a5, a6, a7, a8, a9, a10]) st := by
  rcases h.cases with rfl | rfl | rfl | rfl | rfl
  · exact l8_2 ..
  · exact l8_3 ..
  · exact l8_4 ..
  · exact l8_5 ..
  · exact l8_6 ..
theorem q9 {n : Nat} (h : Sz n) (a0 a1 a2 a4 a5 a6 a7 a8 a9 a10 : Option D) (st : Store) : evS (callF k00.T 11) (lawS 9) [a0, a1, a2, some (natD n), a4, a5, a6, a7, a8, a9, a10] st = .ok (.nx [a0, a1, a2, some (natD n), a4, a5, a6, a7, a8, a9, some (.str [49])]) st := by
  rcases h.cases with rfl | rfl | rfl | rfl | rfl
  · exact l9_2 ..
  · exact l9_3 ..
  · exact l9_4 ..
  · exact l9_5 ..
  · exact l9_6 ..
theorem body_is : bodyL = .seq (lawS 0) (.seq (lawS 1) (.seq (lawS 2) (.seq (lawS 3) (.seq (lawS 4) (.seq (lawS 5) (.seq (lawS 6) (.seq (lawS 7) (.seq (lawS 8) (.seq (lawS 9) (.seq (lawS 10) .nil)))))))))) := by kernel_rfl
theorem round (ns : List Int) (r : Nat) (a2 a3 a4 a5 a6 a7 a8 a9 a10 : Option D) (st : Store) : ∃ b2 b3 b4 b5 b6 b7 b8 b9 b10 st', evS (callF k00.T 11) bodyL [some (.ro (ns.map .int)), some (natD r), a2, a3, a4, a5, a6, a7, a8, a9, a10] st = .ok (.nx [some (.ro (ns.map .int)), some (natD r), b2, b3, b4, b5, b6, b7, b8, b9, b10]) st' := by
  obtain ⟨s0, e0⟩ := q0 a2 a3 a4 a5 a6 a7 a8 a9 a10 ns r st
  have h0 : (st ++ [drCell s0])[st.length]? = some (drCell s0) := pg
  generalize st.length = l at e0 h0
  generalize st ++ [drCell s0] = st0 at e0 h0
  generalize some (D.ro (ns.map .int)) = c0 at e0 ⊢
  obtain ⟨n, s1, hn, e1⟩ := q1 c0 (some (natD r)) a3 a4 a5 a6 a7 a8 a9 a10 h0
  have h1 : (st0.set l (drCell s1))[l]? = some (drCell s1) := get_set h0
  generalize st0.set l (drCell s1) = st1 at e1 h1
  obtain ⟨a, b, s2, ha, hb, e2⟩ := q2 c0 (some (natD r)) a4 a5 a6 a7 a8 a9 a10 h1 hn
  have h2 : (st1.set l (drCell s2))[l]? = some (drCell s2) := get_set h1
  generalize st1.set l (drCell s2) = st2 at e2 h2
  obtain ⟨b', s3, hb', e3⟩ := q3 c0 (some (natD r)) a6 a7 a8 a9 a10 h2 hn ha hb
  have h3 : (st2.set l (drCell s3))[l]? = some (drCell s3) := get_set h2
  generalize st2.set l (drCell s3) = st3 at e3 h3
  obtain ⟨w, s4, hw, e4⟩ := q4 c0 (some (natD r)) (some (natD a)) (some (natD b')) a6 a7 a8 a9 a10 h3 hn
  have h4 : (st3.set l (drCell s4))[l]? = some (drCell s4) := get_set h3
  generalize st3.set l (drCell s4) = st4 at e4 h4
  have e5 := l5 hn ha hb' hw c0 (some (natD r)) (some (.loc l)) a7 a8 a9 a10 st4
  obtain ⟨S, s6, hS, hr, e6⟩ := l6 hn l s4 st4 h4 c0 (some (natD r)) (some (natD a)) (some (natD b')) (some (.tup (w.map natD))) a7 a8 a9 a10
  generalize st4.set l (drCell s6) = st6 at e6
  have hS2 : S.length ≤ 4096 := by omega
  have e7 := q7 hn S hr hS2 c0 (some (natD r)) (some (.loc l)) (some (natD a)) (some (natD b')) (some (.tup (w.map natD))) a7 a9 a10 st6
  have e8 := q8 hn c0 (some (natD r)) (some (.loc l)) (some (natD a)) (some (natD b')) (some (.tup (w.map natD))) a7 (some (.tup (S.map natD))) a9 a10 st6
  have e9 := q9 hn c0 (some (natD r)) (some (.loc l)) (some (natD a)) (some (natD b')) (some (.tup (w.map natD))) a7 (some (.tup (S.map natD))) a9 a10 st6
  have e10 := l10 hn S hS2 c0 (some (natD r)) (some (.loc l)) (some (natD a)) (some (natD b')) (some (.tup (w.map natD))) a7 a9 (some (.str [49])) st6
  refine ⟨some (.loc l), some (natD n), some (natD a), some (natD b'), some (.tup (w.map natD)), a7, some (.tup (S.map natD)), a9, some (.int 7), st6, ?_⟩
  rw [body_is, sqS e0, sqS e1, sqS e2, sqS e3, sqS e4, sqS e5, sqS e6, sqS e7, sqS e8, sqS e9, sqS e10]
  try rfl
end K0
theorem ev_k00 (ns : List Int) : ∃ st2, callF k00.T 12 54 [.ro (ns.map .int)] [] = .ok (.bl true) st2 := by
  have T : k00.T[54]? = some k00.f54 := rfl
  have st0 : start 11 [.ro (ns.map .int)] = [some (.ro (ns.map .int)), none, none, none, none, none, none, none, none, none, none] := rfl
  have f1 : k00.f54.keep = false := rfl
  have f2 : k00.f54.ps = 1 := rfl
  have f3 : k00.f54.sl = 11 := rfl
  have b : k00.f54.body = .seq (.ite (.not (.call 53 .nil)) (.seq (.ret (.cst (.bl false))) .nil) .nil) (.seq (.for (.var 1) (.prim .range1 (.cons (.cst (.int 3)) .nil)) K0.bodyL) (.seq (.ret (.cst (.bl true))) .nil)) := by kernel_rfl
  have c53 := K0.told53
  have e0 : evS (callF k00.T 11) (.ite (.not (.call 53 .nil)) (.seq (.ret (.cst (.bl false))) .nil) .nil) [some (.ro (ns.map .int)), none, none, none, none, none, none, none, none, none, none] [] = .ok (.nx [some (.ro (ns.map .int)), none, none, none, none, none, none, none, none, none, none]) [] := by
    refine K0.iteNot ?_
    simp only [evE, evL, ok_bind, callE, c53, Out.noexc]
  obtain ⟨b2, b3, b4, b5, b6, b7, b8, b9, b10, s1, r0⟩ := K0.round ns 0 none none none none none none none none none []
  obtain ⟨c2, c3, c4, c5, c6, c7, c8, c9, c10, s2, r1⟩ := K0.round ns 1 b2 b3 b4 b5 b6 b7 b8 b9 b10 s1
  obtain ⟨d2, d3, d4, d5, d6, d7, d8, d9, d10, s3, r2⟩ := K0.round ns 2 c2 c3 c4 c5 c6 c7 c8 c9 c10 s2
  have src : srcL (evE (callF k00.T 11) (.prim .range1 (.cons (.cst (.int 3)) .nil)) [some (.ro (ns.map .int)), none, none, none, none, none, none, none, none, none, none] []) = .ok [natD 0, natD 1, natD 2] [] := rfl
  have sg : ∀ (r : Nat) (x0 x1 x2 x3 x4 x5 x6 x7 x8 x9 x10 : Option D), setTg (.var 1) (natD r) [x0, x1, x2, x3, x4, x5, x6, x7, x8, x9, x10] = some [x0, some (natD r), x2, x3, x4, x5, x6, x7, x8, x9, x10] := fun _ _ _ _ _ _ _ _ _ _ _ _ => rfl
  have e1 : evS (callF k00.T 11) (.for (.var 1) (.prim .range1 (.cons (.cst (.int 3)) .nil)) K0.bodyL) [some (.ro (ns.map .int)), none, none, none, none, none, none, none, none, none, none] [] = .ok (.nx [some (.ro (ns.map .int)), some (natD 2), d2, d3, d4, d5, d6, d7, d8, d9, d10]) s3 := by
    rw [evS, src]
    simp only [ok_bind, forL, sg, r0, r1, r2]
  refine ⟨[], ?_⟩
  rw [callF]
  simp only [T, runFn, f1, f2, f3, b, List.length_cons, List.length_nil, Nat.reduceAdd, if_true, st0]
  rw [K0.sqS e0, K0.sqS e1]
  try rfl
end Py
end
section
set_option Elab.async false
set_option linter.all false
set_option maxRecDepth 100000
set_option maxHeartbeats 0
namespace H_k00
open PySem PySem.Spec PyProof.Rows L2
def top (i : Nat) : Stmt := PySem.Challenge.pw_inkdisk_k00_cells_that_stay_inked.main.body.getD i (.Pass ⟨0, 0, 0, 0⟩)
def nm_0 : List Str := ["is_int", "is_within", "is_seq", "is_rising", "is_numbering", "is_state_of", "is_set_of", "ink_of", "cells_in", "state_with", "grows_to", "states_over", "states_under", "moved_by", "check_count", "check_state", "check_two", "check_set", "is_state", "inked", "ink", "state_of", "grows", "above", "below", "between", "both", "shared", "alone", "need"]
def nm_1 : List Str := ["ways", "way", "moved", "turned", "is_set", "counts_under", "counts_over", "lowest", "highest", "grown", "shrunk", "least_over", "most_under", "_law_numbers", "_law_draw", "_law_same", "_law_cells", "_law_state", "_law_grows", "_law_all", "_law_seats", "_law_two", "_law_set", "_law_told_once", "law"]
def nm : List Str := nm_0 ++ nm_1
def psl_0 : List (List Str) := [["value"], ["value", "low", "high"], ["value"], ["value", "low", "high"], ["value", "many"], ["n", "value"], ["n", "value"], ["state"], ["state"], ["cells"], ["one", "other"], ["n", "state"], ["n", "state"], ["state", "seats"], ["n"], ["n", "state", "at"], ["n", "one", "other"], ["n", "states"], ["n", "value"], ["n", "state"], ["n", "state"], ["n", "cells"], ["n", "one", "other"], ["n", "state"], ["n", "state"], ["n", "one", "other"], ["n", "one", "other"], ["n", "one", "other"], ["n", "one", "other"], ["n", "one", "other"]]
def psl_1 : List (List Str) := [["n", "one", "other"], ["n", "one", "other"], ["n", "state", "seats"], ["n", "state"], ["n", "value"], ["n", "states"], ["n", "states"], ["n", "states"], ["n", "states"], ["n", "states"], ["n", "states"], ["n", "states"], ["n", "states"], ["script", "place", "many"], ["state", "many"], ["actual", "due"], ["n", "state"], ["cells"], ["n", "one", "other"], ["n"], ["state", "n"], ["n", "one", "other"], ["n", "states"], [], ["script"]]
def psl : List (List Str) := psl_0 ++ psl_1
def nsl_0 : List (List Str) := [["value"], ["value", "low", "high"], ["value"], ["value", "low", "high", "last", "member"], ["value", "many", "met", "member"], ["n", "value"], ["n", "value"], ["state", "count"], ["state", "cells", "cell"], ["cells", "state", "cell"], ["one", "other"], ["n", "state", "other"], ["n", "state", "other"], ["state", "seats", "moved", "cell", "seat"], ["n"], ["n", "state", "at"], ["n", "one", "other"], ["n", "states"], ["n", "value"], ["n", "state"], ["n", "state"], ["n", "cells"], ["n", "one", "other"], ["n", "state"], ["n", "state"], ["n", "one", "other", "state"], ["n", "one", "other"], ["n", "one", "other"], ["n", "one", "other"], ["n", "one", "other"]]
def nsl_1 : List (List Str) := [["n", "one", "other"], ["n", "one", "other", "states", "cell"], ["n", "state", "seats"], ["n", "state"], ["n", "value"], ["n", "states", "counts", "state", "cell"], ["n", "states", "last", "turned_counts", "state"], ["n", "states", "counts", "state"], ["n", "states", "counts", "state"], ["n", "states", "counts", "state"], ["n", "states", "counts", "state"], ["n", "states", "found", "state"], ["n", "states", "found", "state"], ["script", "place", "many", "cell", "numbers", "rest_o", "k", "mixed"], ["state", "many"], ["actual", "due", "k"], ["n", "state", "k"], ["cells", "k"], ["n", "one", "other", "there", "k"], ["n"], ["state", "n", "rows", "k", "j"], ["n", "one", "other", "first", "second", "grow", "k", "s", "more_o", "count_o", "steps"], ["n", "states", "low", "s", "t", "high", "over", "k", "under"], [], ["script", "run", "state", "n", "one", "other", "seats", "k", "states", "s", "wrong_o"]]
def nsl : List (List Str) := nsl_0 ++ nsl_1
def con : List (Str × Py.D) := []
def tx : Py.Tx := ⟨nm, con, false, true⟩
abbrev df (x : Str) (i : Nat) : He.DefD := ⟨(x, none), x, x, defArgs (top i), defBody (top i), defScope (top i), [], []⟩
def fn_0 : List He.DefD := [df "is_int" 2, df "is_within" 3, df "is_seq" 4, df "is_rising" 5, df "is_numbering" 6, df "is_state_of" 8, df "is_set_of" 9, df "ink_of" 10, df "cells_in" 11, df "state_with" 12, df "grows_to" 13, df "states_over" 14, df "states_under" 15, df "moved_by" 16, df "check_count" 21, df "check_state" 22, df "check_two" 23, df "check_set" 24, df "is_state" 25, df "inked" 26, df "ink" 27, df "state_of" 28, df "grows" 29, df "above" 30, df "below" 31, df "between" 32, df "both" 33, df "shared" 34, df "alone" 35, df "need" 36]
def fn_1 : List He.DefD := [df "ways" 37, df "way" 38, df "moved" 39, df "turned" 40, df "is_set" 41, df "counts_under" 42, df "counts_over" 43, df "lowest" 44, df "highest" 45, df "grown" 46, df "shrunk" 47, df "least_over" 48, df "most_under" 49, df "_law_numbers" 51, df "_law_draw" 52, df "_law_same" 53, df "_law_cells" 54, df "_law_state" 55, df "_law_grows" 56, df "_law_all" 57, df "_law_seats" 58, df "_law_two" 59, df "_law_set" 60, df "_law_told_once" 61, df "law" 62]
def fn : List He.DefD := fn_0 ++ fn_1
def fa_0 : List He.Fa := [.glo "is_int", .glo "is_within", .glo "is_seq", .glo "is_rising", .glo "is_numbering", .glo "is_state_of", .glo "is_set_of", .glo "ink_of", .glo "cells_in", .glo "state_with", .glo "grows_to", .glo "states_over", .glo "states_under", .glo "moved_by", .glo "check_count", .glo "check_state", .glo "check_two", .glo "check_set", .glo "is_state", .glo "inked", .glo "ink", .glo "state_of", .glo "grows", .glo "above", .glo "below", .glo "between", .glo "both", .glo "shared", .glo "alone", .glo "need"]
def fa_1 : List He.Fa := [.glo "ways", .glo "way", .glo "moved", .glo "turned", .glo "is_set", .glo "counts_under", .glo "counts_over", .glo "lowest", .glo "highest", .glo "grown", .glo "shrunk", .glo "least_over", .glo "most_under", .glo "_law_numbers", .glo "_law_draw", .glo "_law_same", .glo "_law_cells", .glo "_law_state", .glo "_law_grows", .glo "_law_all", .glo "_law_seats", .glo "_law_two", .glo "_law_set", .glo "_law_told_once", .glo "law", .free "len", .free "tuple", .free "list", .free "sum", .free "any"]
def fa_2 : List He.Fa := [.free "all", .free "min", .free "max", .free "sorted", .free "abs", .free "int", .free "bool", .free "str", .free "isinstance", .free "range", .free "enumerate", .free "set"]
def fa : List He.Fa := fa_0 ++ fa_1 ++ fa_2
def ex (K : PySem.W.Frag) : Bool := match PySem.W.nsIn K mainGlobals "factorial" with | some (some (Value.builtin s)) => s == "math.factorial" | _ => false
abbrev R : PySem.W.OpenRow := PySem.W.OpenLaw.row PySem.Challenge.rw_inkdisk_k00_cells_that_stay_inked
abbrev hk : PySem.W.Hook := He.hookX 4 fa fn [] [] ex
def ob (s : PySem.W.SharedT) : He.AlX := He.obsX 4 fa fn [] [] ex (HandSHeadRun.getT s)
theorem ob_eq (s : PySem.W.SharedT) : ob s = hk.obs s.abs := He.obsX_eq (HandSHeadRun.getT_eq s)
def names_0 : List Str := ["factorial", "is_int", "is_within", "is_seq", "is_rising", "is_numbering", "is_state_of", "is_set_of", "ink_of", "cells_in", "state_with", "grows_to", "states_over", "states_under", "moved_by", "InkError", "BadValue", "check_count", "check_state", "check_two", "check_set", "is_state", "inked", "ink", "state_of", "grows", "above", "below", "between", "both"]
def names_1 : List Str := ["shared", "alone", "need", "ways", "way", "moved", "turned", "is_set", "counts_under", "counts_over", "lowest", "highest", "grown", "shrunk", "least_over", "most_under", "_law_numbers", "_law_draw", "_law_same", "_law_cells", "_law_state", "_law_grows", "_law_all", "_law_seats", "_law_two", "_law_set", "_law_told_once"]
def names : List Str := names_0 ++ names_1
theorem run (w : World) : HandSHeadRun.RunEqI R (PySem.W.view R.prog [62]) hk ob 6700 names w := by
  unfold HandSHeadRun.RunEqI
  kernel_rfl
theorem ck0 : Py.C9 tx (nsl.getD 0 []) (psl.getD 0 []) (defScope (top 2)) (defBody (top 2)) k00.f0 = true := by decide +kernel
theorem ck1 : Py.C9 tx (nsl.getD 1 []) (psl.getD 1 []) (defScope (top 3)) (defBody (top 3)) k00.f1 = true := by decide +kernel
theorem ck2 : Py.C9 tx (nsl.getD 2 []) (psl.getD 2 []) (defScope (top 4)) (defBody (top 4)) k00.f2 = true := by decide +kernel
theorem ck3 : Py.C9 tx (nsl.getD 3 []) (psl.getD 3 []) (defScope (top 5)) (defBody (top 5)) k00.f3 = true := by decide +kernel
theorem ck4 : Py.C9 tx (nsl.getD 4 []) (psl.getD 4 []) (defScope (top 6)) (defBody (top 6)) k00.f4 = true := by decide +kernel
theorem ck5 : Py.C9 tx (nsl.getD 5 []) (psl.getD 5 []) (defScope (top 8)) (defBody (top 8)) k00.f5 = true := by decide +kernel
theorem ck6 : Py.C9 tx (nsl.getD 6 []) (psl.getD 6 []) (defScope (top 9)) (defBody (top 9)) k00.f6 = true := by decide +kernel
theorem ck7 : Py.C9 tx (nsl.getD 7 []) (psl.getD 7 []) (defScope (top 10)) (defBody (top 10)) k00.f7 = true := by decide +kernel
theorem ck8 : Py.C9 tx (nsl.getD 8 []) (psl.getD 8 []) (defScope (top 11)) (defBody (top 11)) k00.f8 = true := by decide +kernel
theorem ck9 : Py.C9 tx (nsl.getD 9 []) (psl.getD 9 []) (defScope (top 12)) (defBody (top 12)) k00.f9 = true := by decide +kernel
theorem ck10 : Py.C9 tx (nsl.getD 10 []) (psl.getD 10 []) (defScope (top 13)) (defBody (top 13)) k00.f10 = true := by decide +kernel
theorem ck11 : Py.C9 tx (nsl.getD 11 []) (psl.getD 11 []) (defScope (top 14)) (defBody (top 14)) k00.f11 = true := by decide +kernel
theorem ck12 : Py.C9 tx (nsl.getD 12 []) (psl.getD 12 []) (defScope (top 15)) (defBody (top 15)) k00.f12 = true := by decide +kernel
theorem ck13 : Py.C9 tx (nsl.getD 13 []) (psl.getD 13 []) (defScope (top 16)) (defBody (top 16)) k00.f13 = true := by decide +kernel
theorem ck14 : Py.C9 tx (nsl.getD 14 []) (psl.getD 14 []) (defScope (top 21)) (defBody (top 21)) k00.f14 = true := by decide +kernel
theorem ck15 : Py.C9 tx (nsl.getD 15 []) (psl.getD 15 []) (defScope (top 22)) (defBody (top 22)) k00.f15 = true := by decide +kernel
theorem ck16 : Py.C9 tx (nsl.getD 16 []) (psl.getD 16 []) (defScope (top 23)) (defBody (top 23)) k00.f16 = true := by decide +kernel
theorem ck17 : Py.C9 tx (nsl.getD 17 []) (psl.getD 17 []) (defScope (top 24)) (defBody (top 24)) k00.f17 = true := by decide +kernel
theorem ck18 : Py.C9 tx (nsl.getD 18 []) (psl.getD 18 []) (defScope (top 25)) (defBody (top 25)) k00.f18 = true := by decide +kernel
theorem ck19 : Py.C9 tx (nsl.getD 19 []) (psl.getD 19 []) (defScope (top 26)) (defBody (top 26)) k00.f19 = true := by decide +kernel
theorem ck20 : Py.C9 tx (nsl.getD 20 []) (psl.getD 20 []) (defScope (top 27)) (defBody (top 27)) k00.f20 = true := by decide +kernel
theorem ck21 : Py.C9 tx (nsl.getD 21 []) (psl.getD 21 []) (defScope (top 28)) (defBody (top 28)) k00.f21 = true := by decide +kernel
theorem ck22 : Py.C9 tx (nsl.getD 22 []) (psl.getD 22 []) (defScope (top 29)) (defBody (top 29)) k00.f22 = true := by decide +kernel
theorem ck23 : Py.C9 tx (nsl.getD 23 []) (psl.getD 23 []) (defScope (top 30)) (defBody (top 30)) k00.f23 = true := by decide +kernel
theorem ck24 : Py.C9 tx (nsl.getD 24 []) (psl.getD 24 []) (defScope (top 31)) (defBody (top 31)) k00.f24 = true := by decide +kernel
theorem ck25 : Py.C9 tx (nsl.getD 25 []) (psl.getD 25 []) (defScope (top 32)) (defBody (top 32)) k00.f25 = true := by decide +kernel
theorem ck26 : Py.C9 tx (nsl.getD 26 []) (psl.getD 26 []) (defScope (top 33)) (defBody (top 33)) k00.f26 = true := by decide +kernel
theorem ck27 : Py.C9 tx (nsl.getD 27 []) (psl.getD 27 []) (defScope (top 34)) (defBody (top 34)) k00.f27 = true := by decide +kernel
theorem ck28 : Py.C9 tx (nsl.getD 28 []) (psl.getD 28 []) (defScope (top 35)) (defBody (top 35)) k00.f28 = true := by decide +kernel
theorem ck29 : Py.C9 tx (nsl.getD 29 []) (psl.getD 29 []) (defScope (top 36)) (defBody (top 36)) k00.f29 = true := by decide +kernel
theorem ck30 : Py.C9 tx (nsl.getD 30 []) (psl.getD 30 []) (defScope (top 37)) (defBody (top 37)) k00.f30 = true := by decide +kernel
theorem ck31 : Py.C9 tx (nsl.getD 31 []) (psl.getD 31 []) (defScope (top 38)) (defBody (top 38)) k00.f31 = true := by decide +kernel
theorem ck32 : Py.C9 tx (nsl.getD 32 []) (psl.getD 32 []) (defScope (top 39)) (defBody (top 39)) k00.f32 = true := by decide +kernel
theorem ck33 : Py.C9 tx (nsl.getD 33 []) (psl.getD 33 []) (defScope (top 40)) (defBody (top 40)) k00.f33 = true := by decide +kernel
theorem ck34 : Py.C9 tx (nsl.getD 34 []) (psl.getD 34 []) (defScope (top 41)) (defBody (top 41)) k00.f34 = true := by decide +kernel
theorem ck35 : Py.C9 tx (nsl.getD 35 []) (psl.getD 35 []) (defScope (top 42)) (defBody (top 42)) k00.f35 = true := by decide +kernel
theorem ck36 : Py.C9 tx (nsl.getD 36 []) (psl.getD 36 []) (defScope (top 43)) (defBody (top 43)) k00.f36 = true := by decide +kernel
theorem ck37 : Py.C9 tx (nsl.getD 37 []) (psl.getD 37 []) (defScope (top 44)) (defBody (top 44)) k00.f37 = true := by decide +kernel
theorem ck38 : Py.C9 tx (nsl.getD 38 []) (psl.getD 38 []) (defScope (top 45)) (defBody (top 45)) k00.f38 = true := by decide +kernel
theorem ck39 : Py.C9 tx (nsl.getD 39 []) (psl.getD 39 []) (defScope (top 46)) (defBody (top 46)) k00.f39 = true := by decide +kernel
theorem ck40 : Py.C9 tx (nsl.getD 40 []) (psl.getD 40 []) (defScope (top 47)) (defBody (top 47)) k00.f40 = true := by decide +kernel
theorem ck41 : Py.C9 tx (nsl.getD 41 []) (psl.getD 41 []) (defScope (top 48)) (defBody (top 48)) k00.f41 = true := by decide +kernel
theorem ck42 : Py.C9 tx (nsl.getD 42 []) (psl.getD 42 []) (defScope (top 49)) (defBody (top 49)) k00.f42 = true := by decide +kernel
theorem ck43 : Py.C9 tx (nsl.getD 43 []) (psl.getD 43 []) (defScope (top 51)) (defBody (top 51)) k00.f43 = true := by decide +kernel
theorem ck44 : Py.C9 tx (nsl.getD 44 []) (psl.getD 44 []) (defScope (top 52)) (defBody (top 52)) k00.f44 = true := by decide +kernel
theorem ck45 : Py.C9 tx (nsl.getD 45 []) (psl.getD 45 []) (defScope (top 53)) (defBody (top 53)) k00.f45 = true := by decide +kernel
theorem ck46 : Py.C9 tx (nsl.getD 46 []) (psl.getD 46 []) (defScope (top 54)) (defBody (top 54)) k00.f46 = true := by decide +kernel
theorem ck47 : Py.C9 tx (nsl.getD 47 []) (psl.getD 47 []) (defScope (top 55)) (defBody (top 55)) k00.f47 = true := by decide +kernel
theorem ck48 : Py.C9 tx (nsl.getD 48 []) (psl.getD 48 []) (defScope (top 56)) (defBody (top 56)) k00.f48 = true := by decide +kernel
theorem ck49 : Py.C9 tx (nsl.getD 49 []) (psl.getD 49 []) (defScope (top 57)) (defBody (top 57)) k00.f49 = true := by decide +kernel
theorem ck50 : Py.C9 tx (nsl.getD 50 []) (psl.getD 50 []) (defScope (top 58)) (defBody (top 58)) k00.f50 = true := by decide +kernel
theorem ck51 : Py.C9 tx (nsl.getD 51 []) (psl.getD 51 []) (defScope (top 59)) (defBody (top 59)) k00.f51 = true := by decide +kernel
theorem ck52 : Py.C9 tx (nsl.getD 52 []) (psl.getD 52 []) (defScope (top 60)) (defBody (top 60)) k00.f52 = true := by decide +kernel
theorem ck53 : Py.C9 tx (nsl.getD 53 []) (psl.getD 53 []) (defScope (top 61)) (defBody (top 61)) k00.f53 = true := by decide +kernel
theorem ck54 : Py.C9 tx (nsl.getD 54 []) (psl.getD 54 []) (defScope (top 62)) (defBody (top 62)) k00.f54 = true := by decide +kernel
theorem bd0 {K : PySem.W.Frag} {f : Addr} {fd : FuncData} (F : FunD K "is_int" "is_int" (defArgs (top 2)) (defBody (top 2)) (defScope (top 2)) [] [] f fd) : Binds K fd ["value"] [] := F.bindsN fun _ _ _ _ _ _ us hl => match us, hl with | [_], _ => rfl
theorem bd1 {K : PySem.W.Frag} {f : Addr} {fd : FuncData} (F : FunD K "is_within" "is_within" (defArgs (top 3)) (defBody (top 3)) (defScope (top 3)) [] [] f fd) : Binds K fd ["value", "low", "high"] [] := F.bindsN fun _ _ _ _ _ _ us hl => match us, hl with | [_, _, _], _ => rfl
theorem bd2 {K : PySem.W.Frag} {f : Addr} {fd : FuncData} (F : FunD K "is_seq" "is_seq" (defArgs (top 4)) (defBody (top 4)) (defScope (top 4)) [] [] f fd) : Binds K fd ["value"] [] := F.bindsN fun _ _ _ _ _ _ us hl => match us, hl with | [_], _ => rfl
theorem bd3 {K : PySem.W.Frag} {f : Addr} {fd : FuncData} (F : FunD K "is_rising" "is_rising" (defArgs (top 5)) (defBody (top 5)) (defScope (top 5)) [] [] f fd) : Binds K fd ["value", "low", "high"] [] := F.bindsN fun _ _ _ _ _ _ us hl => match us, hl with | [_, _, _], _ => rfl
theorem bd4 {K : PySem.W.Frag} {f : Addr} {fd : FuncData} (F : FunD K "is_numbering" "is_numbering" (defArgs (top 6)) (defBody (top 6)) (defScope (top 6)) [] [] f fd) : Binds K fd ["value", "many"] [] := F.bindsN fun _ _ _ _ _ _ us hl => match us, hl with | [_, _], _ => rfl
theorem bd5 {K : PySem.W.Frag} {f : Addr} {fd : FuncData} (F : FunD K "is_state_of" "is_state_of" (defArgs (top 8)) (defBody (top 8)) (defScope (top 8)) [] [] f fd) : Binds K fd ["n", "value"] [] := F.bindsN fun _ _ _ _ _ _ us hl => match us, hl with | [_, _], _ => rfl
theorem bd6 {K : PySem.W.Frag} {f : Addr} {fd : FuncData} (F : FunD K "is_set_of" "is_set_of" (defArgs (top 9)) (defBody (top 9)) (defScope (top 9)) [] [] f fd) : Binds K fd ["n", "value"] [] := F.bindsN fun _ _ _ _ _ _ us hl => match us, hl with | [_, _], _ => rfl
theorem bd7 {K : PySem.W.Frag} {f : Addr} {fd : FuncData} (F : FunD K "ink_of" "ink_of" (defArgs (top 10)) (defBody (top 10)) (defScope (top 10)) [] [] f fd) : Binds K fd ["state"] [] := F.bindsN fun _ _ _ _ _ _ us hl => match us, hl with | [_], _ => rfl
theorem bd8 {K : PySem.W.Frag} {f : Addr} {fd : FuncData} (F : FunD K "cells_in" "cells_in" (defArgs (top 11)) (defBody (top 11)) (defScope (top 11)) [] [] f fd) : Binds K fd ["state"] [] := F.bindsN fun _ _ _ _ _ _ us hl => match us, hl with | [_], _ => rfl
theorem bd9 {K : PySem.W.Frag} {f : Addr} {fd : FuncData} (F : FunD K "state_with" "state_with" (defArgs (top 12)) (defBody (top 12)) (defScope (top 12)) [] [] f fd) : Binds K fd ["cells"] [] := F.bindsN fun _ _ _ _ _ _ us hl => match us, hl with | [_], _ => rfl
theorem bd10 {K : PySem.W.Frag} {f : Addr} {fd : FuncData} (F : FunD K "grows_to" "grows_to" (defArgs (top 13)) (defBody (top 13)) (defScope (top 13)) [] [] f fd) : Binds K fd ["one", "other"] [] := F.bindsN fun _ _ _ _ _ _ us hl => match us, hl with | [_, _], _ => rfl
theorem bd11 {K : PySem.W.Frag} {f : Addr} {fd : FuncData} (F : FunD K "states_over" "states_over" (defArgs (top 14)) (defBody (top 14)) (defScope (top 14)) [] [] f fd) : Binds K fd ["n", "state"] [] := F.bindsN fun _ _ _ _ _ _ us hl => match us, hl with | [_, _], _ => rfl
theorem bd12 {K : PySem.W.Frag} {f : Addr} {fd : FuncData} (F : FunD K "states_under" "states_under" (defArgs (top 15)) (defBody (top 15)) (defScope (top 15)) [] [] f fd) : Binds K fd ["n", "state"] [] := F.bindsN fun _ _ _ _ _ _ us hl => match us, hl with | [_, _], _ => rfl
theorem bd13 {K : PySem.W.Frag} {f : Addr} {fd : FuncData} (F : FunD K "moved_by" "moved_by" (defArgs (top 16)) (defBody (top 16)) (defScope (top 16)) [] [] f fd) : Binds K fd ["state", "seats"] [] := F.bindsN fun _ _ _ _ _ _ us hl => match us, hl with | [_, _], _ => rfl
theorem bd14 {K : PySem.W.Frag} {f : Addr} {fd : FuncData} (F : FunD K "check_count" "check_count" (defArgs (top 21)) (defBody (top 21)) (defScope (top 21)) [] [] f fd) : Binds K fd ["n"] [] := F.bindsN fun _ _ _ _ _ _ us hl => match us, hl with | [_], _ => rfl
theorem bd15 {K : PySem.W.Frag} {f : Addr} {fd : FuncData} (F : FunD K "check_state" "check_state" (defArgs (top 22)) (defBody (top 22)) (defScope (top 22)) [] [] f fd) : Binds K fd ["n", "state", "at"] [] := F.bindsN fun _ _ _ _ _ _ us hl => match us, hl with | [_, _, _], _ => rfl
theorem bd16 {K : PySem.W.Frag} {f : Addr} {fd : FuncData} (F : FunD K "check_two" "check_two" (defArgs (top 23)) (defBody (top 23)) (defScope (top 23)) [] [] f fd) : Binds K fd ["n", "one", "other"] [] := F.bindsN fun _ _ _ _ _ _ us hl => match us, hl with | [_, _, _], _ => rfl
theorem bd17 {K : PySem.W.Frag} {f : Addr} {fd : FuncData} (F : FunD K "check_set" "check_set" (defArgs (top 24)) (defBody (top 24)) (defScope (top 24)) [] [] f fd) : Binds K fd ["n", "states"] [] := F.bindsN fun _ _ _ _ _ _ us hl => match us, hl with | [_, _], _ => rfl
theorem bd18 {K : PySem.W.Frag} {f : Addr} {fd : FuncData} (F : FunD K "is_state" "is_state" (defArgs (top 25)) (defBody (top 25)) (defScope (top 25)) [] [] f fd) : Binds K fd ["n", "value"] [] := F.bindsN fun _ _ _ _ _ _ us hl => match us, hl with | [_, _], _ => rfl
theorem bd19 {K : PySem.W.Frag} {f : Addr} {fd : FuncData} (F : FunD K "inked" "inked" (defArgs (top 26)) (defBody (top 26)) (defScope (top 26)) [] [] f fd) : Binds K fd ["n", "state"] [] := F.bindsN fun _ _ _ _ _ _ us hl => match us, hl with | [_, _], _ => rfl
theorem bd20 {K : PySem.W.Frag} {f : Addr} {fd : FuncData} (F : FunD K "ink" "ink" (defArgs (top 27)) (defBody (top 27)) (defScope (top 27)) [] [] f fd) : Binds K fd ["n", "state"] [] := F.bindsN fun _ _ _ _ _ _ us hl => match us, hl with | [_, _], _ => rfl
theorem bd21 {K : PySem.W.Frag} {f : Addr} {fd : FuncData} (F : FunD K "state_of" "state_of" (defArgs (top 28)) (defBody (top 28)) (defScope (top 28)) [] [] f fd) : Binds K fd ["n", "cells"] [] := F.bindsN fun _ _ _ _ _ _ us hl => match us, hl with | [_, _], _ => rfl
theorem bd22 {K : PySem.W.Frag} {f : Addr} {fd : FuncData} (F : FunD K "grows" "grows" (defArgs (top 29)) (defBody (top 29)) (defScope (top 29)) [] [] f fd) : Binds K fd ["n", "one", "other"] [] := F.bindsN fun _ _ _ _ _ _ us hl => match us, hl with | [_, _, _], _ => rfl
theorem bd23 {K : PySem.W.Frag} {f : Addr} {fd : FuncData} (F : FunD K "above" "above" (defArgs (top 30)) (defBody (top 30)) (defScope (top 30)) [] [] f fd) : Binds K fd ["n", "state"] [] := F.bindsN fun _ _ _ _ _ _ us hl => match us, hl with | [_, _], _ => rfl
theorem bd24 {K : PySem.W.Frag} {f : Addr} {fd : FuncData} (F : FunD K "below" "below" (defArgs (top 31)) (defBody (top 31)) (defScope (top 31)) [] [] f fd) : Binds K fd ["n", "state"] [] := F.bindsN fun _ _ _ _ _ _ us hl => match us, hl with | [_, _], _ => rfl
theorem bd25 {K : PySem.W.Frag} {f : Addr} {fd : FuncData} (F : FunD K "between" "between" (defArgs (top 32)) (defBody (top 32)) (defScope (top 32)) [] [] f fd) : Binds K fd ["n", "one", "other"] [] := F.bindsN fun _ _ _ _ _ _ us hl => match us, hl with | [_, _, _], _ => rfl
theorem bd26 {K : PySem.W.Frag} {f : Addr} {fd : FuncData} (F : FunD K "both" "both" (defArgs (top 33)) (defBody (top 33)) (defScope (top 33)) [] [] f fd) : Binds K fd ["n", "one", "other"] [] := F.bindsN fun _ _ _ _ _ _ us hl => match us, hl with | [_, _, _], _ => rfl
theorem bd27 {K : PySem.W.Frag} {f : Addr} {fd : FuncData} (F : FunD K "shared" "shared" (defArgs (top 34)) (defBody (top 34)) (defScope (top 34)) [] [] f fd) : Binds K fd ["n", "one", "other"] [] := F.bindsN fun _ _ _ _ _ _ us hl => match us, hl with | [_, _, _], _ => rfl
theorem bd28 {K : PySem.W.Frag} {f : Addr} {fd : FuncData} (F : FunD K "alone" "alone" (defArgs (top 35)) (defBody (top 35)) (defScope (top 35)) [] [] f fd) : Binds K fd ["n", "one", "other"] [] := F.bindsN fun _ _ _ _ _ _ us hl => match us, hl with | [_, _, _], _ => rfl
theorem bd29 {K : PySem.W.Frag} {f : Addr} {fd : FuncData} (F : FunD K "need" "need" (defArgs (top 36)) (defBody (top 36)) (defScope (top 36)) [] [] f fd) : Binds K fd ["n", "one", "other"] [] := F.bindsN fun _ _ _ _ _ _ us hl => match us, hl with | [_, _, _], _ => rfl
theorem bd30 {K : PySem.W.Frag} {f : Addr} {fd : FuncData} (F : FunD K "ways" "ways" (defArgs (top 37)) (defBody (top 37)) (defScope (top 37)) [] [] f fd) : Binds K fd ["n", "one", "other"] [] := F.bindsN fun _ _ _ _ _ _ us hl => match us, hl with | [_, _, _], _ => rfl
theorem bd31 {K : PySem.W.Frag} {f : Addr} {fd : FuncData} (F : FunD K "way" "way" (defArgs (top 38)) (defBody (top 38)) (defScope (top 38)) [] [] f fd) : Binds K fd ["n", "one", "other"] [] := F.bindsN fun _ _ _ _ _ _ us hl => match us, hl with | [_, _, _], _ => rfl
theorem bd32 {K : PySem.W.Frag} {f : Addr} {fd : FuncData} (F : FunD K "moved" "moved" (defArgs (top 39)) (defBody (top 39)) (defScope (top 39)) [] [] f fd) : Binds K fd ["n", "state", "seats"] [] := F.bindsN fun _ _ _ _ _ _ us hl => match us, hl with | [_, _, _], _ => rfl
theorem bd33 {K : PySem.W.Frag} {f : Addr} {fd : FuncData} (F : FunD K "turned" "turned" (defArgs (top 40)) (defBody (top 40)) (defScope (top 40)) [] [] f fd) : Binds K fd ["n", "state"] [] := F.bindsN fun _ _ _ _ _ _ us hl => match us, hl with | [_, _], _ => rfl
theorem bd34 {K : PySem.W.Frag} {f : Addr} {fd : FuncData} (F : FunD K "is_set" "is_set" (defArgs (top 41)) (defBody (top 41)) (defScope (top 41)) [] [] f fd) : Binds K fd ["n", "value"] [] := F.bindsN fun _ _ _ _ _ _ us hl => match us, hl with | [_, _], _ => rfl
theorem bd35 {K : PySem.W.Frag} {f : Addr} {fd : FuncData} (F : FunD K "counts_under" "counts_under" (defArgs (top 42)) (defBody (top 42)) (defScope (top 42)) [] [] f fd) : Binds K fd ["n", "states"] [] := F.bindsN fun _ _ _ _ _ _ us hl => match us, hl with | [_, _], _ => rfl
theorem bd36 {K : PySem.W.Frag} {f : Addr} {fd : FuncData} (F : FunD K "counts_over" "counts_over" (defArgs (top 43)) (defBody (top 43)) (defScope (top 43)) [] [] f fd) : Binds K fd ["n", "states"] [] := F.bindsN fun _ _ _ _ _ _ us hl => match us, hl with | [_, _], _ => rfl
theorem bd37 {K : PySem.W.Frag} {f : Addr} {fd : FuncData} (F : FunD K "lowest" "lowest" (defArgs (top 44)) (defBody (top 44)) (defScope (top 44)) [] [] f fd) : Binds K fd ["n", "states"] [] := F.bindsN fun _ _ _ _ _ _ us hl => match us, hl with | [_, _], _ => rfl
theorem bd38 {K : PySem.W.Frag} {f : Addr} {fd : FuncData} (F : FunD K "highest" "highest" (defArgs (top 45)) (defBody (top 45)) (defScope (top 45)) [] [] f fd) : Binds K fd ["n", "states"] [] := F.bindsN fun _ _ _ _ _ _ us hl => match us, hl with | [_, _], _ => rfl
theorem bd39 {K : PySem.W.Frag} {f : Addr} {fd : FuncData} (F : FunD K "grown" "grown" (defArgs (top 46)) (defBody (top 46)) (defScope (top 46)) [] [] f fd) : Binds K fd ["n", "states"] [] := F.bindsN fun _ _ _ _ _ _ us hl => match us, hl with | [_, _], _ => rfl
theorem bd40 {K : PySem.W.Frag} {f : Addr} {fd : FuncData} (F : FunD K "shrunk" "shrunk" (defArgs (top 47)) (defBody (top 47)) (defScope (top 47)) [] [] f fd) : Binds K fd ["n", "states"] [] := F.bindsN fun _ _ _ _ _ _ us hl => match us, hl with | [_, _], _ => rfl
theorem bd41 {K : PySem.W.Frag} {f : Addr} {fd : FuncData} (F : FunD K "least_over" "least_over" (defArgs (top 48)) (defBody (top 48)) (defScope (top 48)) [] [] f fd) : Binds K fd ["n", "states"] [] := F.bindsN fun _ _ _ _ _ _ us hl => match us, hl with | [_, _], _ => rfl
theorem bd42 {K : PySem.W.Frag} {f : Addr} {fd : FuncData} (F : FunD K "most_under" "most_under" (defArgs (top 49)) (defBody (top 49)) (defScope (top 49)) [] [] f fd) : Binds K fd ["n", "states"] [] := F.bindsN fun _ _ _ _ _ _ us hl => match us, hl with | [_, _], _ => rfl
theorem bd43 {K : PySem.W.Frag} {f : Addr} {fd : FuncData} (F : FunD K "_law_numbers" "_law_numbers" (defArgs (top 51)) (defBody (top 51)) (defScope (top 51)) [] [] f fd) : Binds K fd ["script", "place", "many"] [] := F.bindsN fun _ _ _ _ _ _ us hl => match us, hl with | [_, _, _], _ => rfl
theorem bd44 {K : PySem.W.Frag} {f : Addr} {fd : FuncData} (F : FunD K "_law_draw" "_law_draw" (defArgs (top 52)) (defBody (top 52)) (defScope (top 52)) [] [] f fd) : Binds K fd ["state", "many"] [] := F.bindsN fun _ _ _ _ _ _ us hl => match us, hl with | [_, _], _ => rfl
theorem bd45 {K : PySem.W.Frag} {f : Addr} {fd : FuncData} (F : FunD K "_law_same" "_law_same" (defArgs (top 53)) (defBody (top 53)) (defScope (top 53)) [] [] f fd) : Binds K fd ["actual", "due"] [] := F.bindsN fun _ _ _ _ _ _ us hl => match us, hl with | [_, _], _ => rfl
theorem bd46 {K : PySem.W.Frag} {f : Addr} {fd : FuncData} (F : FunD K "_law_cells" "_law_cells" (defArgs (top 54)) (defBody (top 54)) (defScope (top 54)) [] [] f fd) : Binds K fd ["n", "state"] [] := F.bindsN fun _ _ _ _ _ _ us hl => match us, hl with | [_, _], _ => rfl
theorem bd47 {K : PySem.W.Frag} {f : Addr} {fd : FuncData} (F : FunD K "_law_state" "_law_state" (defArgs (top 55)) (defBody (top 55)) (defScope (top 55)) [] [] f fd) : Binds K fd ["cells"] [] := F.bindsN fun _ _ _ _ _ _ us hl => match us, hl with | [_], _ => rfl
theorem bd48 {K : PySem.W.Frag} {f : Addr} {fd : FuncData} (F : FunD K "_law_grows" "_law_grows" (defArgs (top 56)) (defBody (top 56)) (defScope (top 56)) [] [] f fd) : Binds K fd ["n", "one", "other"] [] := F.bindsN fun _ _ _ _ _ _ us hl => match us, hl with | [_, _, _], _ => rfl
theorem bd49 {K : PySem.W.Frag} {f : Addr} {fd : FuncData} (F : FunD K "_law_all" "_law_all" (defArgs (top 57)) (defBody (top 57)) (defScope (top 57)) [] [] f fd) : Binds K fd ["n"] [] := F.bindsN fun _ _ _ _ _ _ us hl => match us, hl with | [_], _ => rfl
theorem bd50 {K : PySem.W.Frag} {f : Addr} {fd : FuncData} (F : FunD K "_law_seats" "_law_seats" (defArgs (top 58)) (defBody (top 58)) (defScope (top 58)) [] [] f fd) : Binds K fd ["state", "n"] [] := F.bindsN fun _ _ _ _ _ _ us hl => match us, hl with | [_, _], _ => rfl
theorem bd51 {K : PySem.W.Frag} {f : Addr} {fd : FuncData} (F : FunD K "_law_two" "_law_two" (defArgs (top 59)) (defBody (top 59)) (defScope (top 59)) [] [] f fd) : Binds K fd ["n", "one", "other"] [] := F.bindsN fun _ _ _ _ _ _ us hl => match us, hl with | [_, _, _], _ => rfl
theorem bd52 {K : PySem.W.Frag} {f : Addr} {fd : FuncData} (F : FunD K "_law_set" "_law_set" (defArgs (top 60)) (defBody (top 60)) (defScope (top 60)) [] [] f fd) : Binds K fd ["n", "states"] [] := F.bindsN fun _ _ _ _ _ _ us hl => match us, hl with | [_, _], _ => rfl
theorem bd53 {K : PySem.W.Frag} {f : Addr} {fd : FuncData} (F : FunD K "_law_told_once" "_law_told_once" (defArgs (top 61)) (defBody (top 61)) (defScope (top 61)) [] [] f fd) : Binds K fd [] [] := F.bindsN fun _ _ _ _ _ _ us hl => match us, hl with | [], _ => rfl
theorem bd54 {K : PySem.W.Frag} {f : Addr} {fd : FuncData} (F : FunD K "law" "law" (defArgs (top 62)) (defBody (top 62)) (defScope (top 62)) [] [] f fd) : Binds K fd ["script"] [] := F.bindsN fun _ _ _ _ _ _ us hl => match us, hl with | [_], _ => rfl
end H_k00
end
section
set_option Elab.async false
set_option linter.all false
set_option maxRecDepth 100000
set_option maxHeartbeats 0
namespace Py
open PySem PySem.Spec PyProof.Rows L2
theorem head_k00 {K : PySem.W.Frag} {h : Heap} {mg : Str → Option Value} (X : K.In h) (G : h.Ns mainGlobals mg) (c : He.SaysD H_k00.fa H_k00.fn K) (e : H_k00.ex K = true) : ∃ B : Tab, B.T = k00.T ∧ (∀ P w base k, Glob P w K mg base B H_k00.tx k) ∧ (∀ i, B.ps i = H_k00.psl.getD i []) ∧ (∀ i x, H_k00.nm[i]? = some x → mg x = some (.ref (B.fa i))) ∧ ∀ (s : Shared) (u : Value), BindsTo s (B.fd 54) { pos := [u] } [((Str.ofString "script" : Str), u)] := by
  have hfd : ∀ j : Nat, ∃ fd : FuncData, ∀ d : He.DefD, H_k00.fn[j]? = some d → FunD K d.name d.qual d.params d.body d.scope (He.DefD.dvs K d) (He.DefD.kws K d) (He.fAd K d.at_) fd := by
    intro j
    obtain ⟨fd0, _⟩ := c.def_ 0 (d := H_k00.df "is_int" 2) (by rfl)
    cases k : H_k00.fn[j]? with
    | none => exact ⟨fd0, fun d z => nomatch z⟩
    | some d =>
      obtain ⟨fd, F⟩ := c.def_ j k
      exact ⟨fd, fun d' z => by cases z; exact F⟩
  obtain ⟨fd, hfd⟩ := Classical.skolem.mp hfd
  refine ⟨{ T := k00.T, nm := [], fa := fun j => He.fAd K (H_k00.nm.getD j "", none), fd := fd, ps := fun j => H_k00.psl.getD j [], ca := fun _ => 0, con := [], blt := [] }, rfl, fun P w base => glob_all ?_ ?_ ?_ ?_ ?_, fun _ => rfl, ?_, ?_⟩
  · intro x d hx
    have hx := conB_mem (show conB H_k00.con x d = true from hx)
    simp only [H_k00.con, List.mem_cons, Prod.mk.injEq, List.not_mem_nil, or_false] at hx
  · intro s hs
    simp only [bltL, List.mem_cons, List.not_mem_nil, or_false] at hs
    rcases hs with rfl | rfl | rfl | rfl | rfl | rfl | rfl | rfl | rfl | rfl | rfl | rfl | rfl | rfl | rfl | rfl | rfl
    · exact He.free_ok X G (c.fact 55 (f := .free "len") (by rfl))
    · exact He.free_ok X G (c.fact 56 (f := .free "tuple") (by rfl))
    · exact He.free_ok X G (c.fact 57 (f := .free "list") (by rfl))
    · exact He.free_ok X G (c.fact 58 (f := .free "sum") (by rfl))
    · exact He.free_ok X G (c.fact 59 (f := .free "any") (by rfl))
    · exact He.free_ok X G (c.fact 60 (f := .free "all") (by rfl))
    · exact He.free_ok X G (c.fact 61 (f := .free "min") (by rfl))
    · exact He.free_ok X G (c.fact 62 (f := .free "max") (by rfl))
    · exact He.free_ok X G (c.fact 63 (f := .free "sorted") (by rfl))
    · exact He.free_ok X G (c.fact 64 (f := .free "abs") (by rfl))
    · exact He.free_ok X G (c.fact 65 (f := .free "int") (by rfl))
    · exact He.free_ok X G (c.fact 66 (f := .free "bool") (by rfl))
    · exact He.free_ok X G (c.fact 67 (f := .free "str") (by rfl))
    · exact He.free_ok X G (c.fact 68 (f := .free "isinstance") (by rfl))
    · exact He.free_ok X G (c.fact 69 (f := .free "range") (by rfl))
    · exact He.free_ok X G (c.fact 70 (f := .free "enumerate") (by rfl))
    · exact He.free_ok X G (c.fact 71 (f := .free "set") (by rfl))
  · intro z
    cases z
  · intro _
    have e' := e
    unfold H_k00.ex at e'
    split at e'
    · rename_i s hs
      have := PySem.W.mg_of X G hs
      rw [this, eq_of_beq e']
    · cases e' 
  · intro j x hj
    match j, hj with
    | 0, hj =>
      obtain rfl : "is_int" = x := Option.some.inj hj
      have F := hfd 0 (H_k00.df "is_int" 2) (by rfl)
      exact ⟨defOk_ex (N := H_k00.nsl.getD 0 []) (by rfl) F H_k00.ck0, He.glo_ok X G (c.fact 0 (f := .glo "is_int") (by rfl)), H_k00.bd0 F⟩
    | 1, hj =>
      obtain rfl : "is_within" = x := Option.some.inj hj
      have F := hfd 1 (H_k00.df "is_within" 3) (by rfl)
      exact ⟨defOk_ex (N := H_k00.nsl.getD 1 []) (by rfl) F H_k00.ck1, He.glo_ok X G (c.fact 1 (f := .glo "is_within") (by rfl)), H_k00.bd1 F⟩
    | 2, hj =>
      obtain rfl : "is_seq" = x := Option.some.inj hj
      have F := hfd 2 (H_k00.df "is_seq" 4) (by rfl)
      exact ⟨defOk_ex (N := H_k00.nsl.getD 2 []) (by rfl) F H_k00.ck2, He.glo_ok X G (c.fact 2 (f := .glo "is_seq") (by rfl)), H_k00.bd2 F⟩
    | 3, hj =>
      obtain rfl : "is_rising" = x := Option.some.inj hj
      have F := hfd 3 (H_k00.df "is_rising" 5) (by rfl)
      exact ⟨defOk_ex (N := H_k00.nsl.getD 3 []) (by rfl) F H_k00.ck3, He.glo_ok X G (c.fact 3 (f := .glo "is_rising") (by rfl)), H_k00.bd3 F⟩
    | 4, hj =>
      obtain rfl : "is_numbering" = x := Option.some.inj hj
      have F := hfd 4 (H_k00.df "is_numbering" 6) (by rfl)
      exact ⟨defOk_ex (N := H_k00.nsl.getD 4 []) (by rfl) F H_k00.ck4, He.glo_ok X G (c.fact 4 (f := .glo "is_numbering") (by rfl)), H_k00.bd4 F⟩
    | 5, hj =>
      obtain rfl : "is_state_of" = x := Option.some.inj hj
      have F := hfd 5 (H_k00.df "is_state_of" 8) (by rfl)
      exact ⟨defOk_ex (N := H_k00.nsl.getD 5 []) (by rfl) F H_k00.ck5, He.glo_ok X G (c.fact 5 (f := .glo "is_state_of") (by rfl)), H_k00.bd5 F⟩
    | 6, hj =>
      obtain rfl : "is_set_of" = x := Option.some.inj hj
      have F := hfd 6 (H_k00.df "is_set_of" 9) (by rfl)
      exact ⟨defOk_ex (N := H_k00.nsl.getD 6 []) (by rfl) F H_k00.ck6, He.glo_ok X G (c.fact 6 (f := .glo "is_set_of") (by rfl)), H_k00.bd6 F⟩
    | 7, hj =>
      obtain rfl : "ink_of" = x := Option.some.inj hj
      have F := hfd 7 (H_k00.df "ink_of" 10) (by rfl)
      exact ⟨defOk_ex (N := H_k00.nsl.getD 7 []) (by rfl) F H_k00.ck7, He.glo_ok X G (c.fact 7 (f := .glo "ink_of") (by rfl)), H_k00.bd7 F⟩
    | 8, hj =>
      obtain rfl : "cells_in" = x := Option.some.inj hj
      have F := hfd 8 (H_k00.df "cells_in" 11) (by rfl)
      exact ⟨defOk_ex (N := H_k00.nsl.getD 8 []) (by rfl) F H_k00.ck8, He.glo_ok X G (c.fact 8 (f := .glo "cells_in") (by rfl)), H_k00.bd8 F⟩
    | 9, hj =>
      obtain rfl : "state_with" = x := Option.some.inj hj
      have F := hfd 9 (H_k00.df "state_with" 12) (by rfl)
      exact ⟨defOk_ex (N := H_k00.nsl.getD 9 []) (by rfl) F H_k00.ck9, He.glo_ok X G (c.fact 9 (f := .glo "state_with") (by rfl)), H_k00.bd9 F⟩
    | 10, hj =>
      obtain rfl : "grows_to" = x := Option.some.inj hj
      have F := hfd 10 (H_k00.df "grows_to" 13) (by rfl)
      exact ⟨defOk_ex (N := H_k00.nsl.getD 10 []) (by rfl) F H_k00.ck10, He.glo_ok X G (c.fact 10 (f := .glo "grows_to") (by rfl)), H_k00.bd10 F⟩
    | 11, hj =>
      obtain rfl : "states_over" = x := Option.some.inj hj
      have F := hfd 11 (H_k00.df "states_over" 14) (by rfl)
      exact ⟨defOk_ex (N := H_k00.nsl.getD 11 []) (by rfl) F H_k00.ck11, He.glo_ok X G (c.fact 11 (f := .glo "states_over") (by rfl)), H_k00.bd11 F⟩
    | 12, hj =>
      obtain rfl : "states_under" = x := Option.some.inj hj
      have F := hfd 12 (H_k00.df "states_under" 15) (by rfl)
      exact ⟨defOk_ex (N := H_k00.nsl.getD 12 []) (by rfl) F H_k00.ck12, He.glo_ok X G (c.fact 12 (f := .glo "states_under") (by rfl)), H_k00.bd12 F⟩
    | 13, hj =>
      obtain rfl : "moved_by" = x := Option.some.inj hj
      have F := hfd 13 (H_k00.df "moved_by" 16) (by rfl)
      exact ⟨defOk_ex (N := H_k00.nsl.getD 13 []) (by rfl) F H_k00.ck13, He.glo_ok X G (c.fact 13 (f := .glo "moved_by") (by rfl)), H_k00.bd13 F⟩
    | 14, hj =>
      obtain rfl : "check_count" = x := Option.some.inj hj
      have F := hfd 14 (H_k00.df "check_count" 21) (by rfl)
      exact ⟨defOk_ex (N := H_k00.nsl.getD 14 []) (by rfl) F H_k00.ck14, He.glo_ok X G (c.fact 14 (f := .glo "check_count") (by rfl)), H_k00.bd14 F⟩
    | 15, hj =>
      obtain rfl : "check_state" = x := Option.some.inj hj
      have F := hfd 15 (H_k00.df "check_state" 22) (by rfl)
      exact ⟨defOk_ex (N := H_k00.nsl.getD 15 []) (by rfl) F H_k00.ck15, He.glo_ok X G (c.fact 15 (f := .glo "check_state") (by rfl)), H_k00.bd15 F⟩
    | 16, hj =>
      obtain rfl : "check_two" = x := Option.some.inj hj
      have F := hfd 16 (H_k00.df "check_two" 23) (by rfl)
      exact ⟨defOk_ex (N := H_k00.nsl.getD 16 []) (by rfl) F H_k00.ck16, He.glo_ok X G (c.fact 16 (f := .glo "check_two") (by rfl)), H_k00.bd16 F⟩
    | 17, hj =>
      obtain rfl : "check_set" = x := Option.some.inj hj
      have F := hfd 17 (H_k00.df "check_set" 24) (by rfl)
      exact ⟨defOk_ex (N := H_k00.nsl.getD 17 []) (by rfl) F H_k00.ck17, He.glo_ok X G (c.fact 17 (f := .glo "check_set") (by rfl)), H_k00.bd17 F⟩
    | 18, hj =>
      obtain rfl : "is_state" = x := Option.some.inj hj
      have F := hfd 18 (H_k00.df "is_state" 25) (by rfl)
      exact ⟨defOk_ex (N := H_k00.nsl.getD 18 []) (by rfl) F H_k00.ck18, He.glo_ok X G (c.fact 18 (f := .glo "is_state") (by rfl)), H_k00.bd18 F⟩
    | 19, hj =>
      obtain rfl : "inked" = x := Option.some.inj hj
      have F := hfd 19 (H_k00.df "inked" 26) (by rfl)
      exact ⟨defOk_ex (N := H_k00.nsl.getD 19 []) (by rfl) F H_k00.ck19, He.glo_ok X G (c.fact 19 (f := .glo "inked") (by rfl)), H_k00.bd19 F⟩
    | 20, hj =>
      obtain rfl : "ink" = x := Option.some.inj hj
      have F := hfd 20 (H_k00.df "ink" 27) (by rfl)
      exact ⟨defOk_ex (N := H_k00.nsl.getD 20 []) (by rfl) F H_k00.ck20, He.glo_ok X G (c.fact 20 (f := .glo "ink") (by rfl)), H_k00.bd20 F⟩
    | 21, hj =>
      obtain rfl : "state_of" = x := Option.some.inj hj
      have F := hfd 21 (H_k00.df "state_of" 28) (by rfl)
      exact ⟨defOk_ex (N := H_k00.nsl.getD 21 []) (by rfl) F H_k00.ck21, He.glo_ok X G (c.fact 21 (f := .glo "state_of") (by rfl)), H_k00.bd21 F⟩
    | 22, hj =>
      obtain rfl : "grows" = x := Option.some.inj hj
      have F := hfd 22 (H_k00.df "grows" 29) (by rfl)
      exact ⟨defOk_ex (N := H_k00.nsl.getD 22 []) (by rfl) F H_k00.ck22, He.glo_ok X G (c.fact 22 (f := .glo "grows") (by rfl)), H_k00.bd22 F⟩
    | 23, hj =>
      obtain rfl : "above" = x := Option.some.inj hj
      have F := hfd 23 (H_k00.df "above" 30) (by rfl)
      exact ⟨defOk_ex (N := H_k00.nsl.getD 23 []) (by rfl) F H_k00.ck23, He.glo_ok X G (c.fact 23 (f := .glo "above") (by rfl)), H_k00.bd23 F⟩
    | 24, hj =>
      obtain rfl : "below" = x := Option.some.inj hj
      have F := hfd 24 (H_k00.df "below" 31) (by rfl)
      exact ⟨defOk_ex (N := H_k00.nsl.getD 24 []) (by rfl) F H_k00.ck24, He.glo_ok X G (c.fact 24 (f := .glo "below") (by rfl)), H_k00.bd24 F⟩
    | 25, hj =>
      obtain rfl : "between" = x := Option.some.inj hj
      have F := hfd 25 (H_k00.df "between" 32) (by rfl)
      exact ⟨defOk_ex (N := H_k00.nsl.getD 25 []) (by rfl) F H_k00.ck25, He.glo_ok X G (c.fact 25 (f := .glo "between") (by rfl)), H_k00.bd25 F⟩
    | 26, hj =>
      obtain rfl : "both" = x := Option.some.inj hj
      have F := hfd 26 (H_k00.df "both" 33) (by rfl)
      exact ⟨defOk_ex (N := H_k00.nsl.getD 26 []) (by rfl) F H_k00.ck26, He.glo_ok X G (c.fact 26 (f := .glo "both") (by rfl)), H_k00.bd26 F⟩
    | 27, hj =>
      obtain rfl : "shared" = x := Option.some.inj hj
      have F := hfd 27 (H_k00.df "shared" 34) (by rfl)
      exact ⟨defOk_ex (N := H_k00.nsl.getD 27 []) (by rfl) F H_k00.ck27, He.glo_ok X G (c.fact 27 (f := .glo "shared") (by rfl)), H_k00.bd27 F⟩
    | 28, hj =>
      obtain rfl : "alone" = x := Option.some.inj hj
      have F := hfd 28 (H_k00.df "alone" 35) (by rfl)
      exact ⟨defOk_ex (N := H_k00.nsl.getD 28 []) (by rfl) F H_k00.ck28, He.glo_ok X G (c.fact 28 (f := .glo "alone") (by rfl)), H_k00.bd28 F⟩
    | 29, hj =>
      obtain rfl : "need" = x := Option.some.inj hj
      have F := hfd 29 (H_k00.df "need" 36) (by rfl)
      exact ⟨defOk_ex (N := H_k00.nsl.getD 29 []) (by rfl) F H_k00.ck29, He.glo_ok X G (c.fact 29 (f := .glo "need") (by rfl)), H_k00.bd29 F⟩
    | 30, hj =>
      obtain rfl : "ways" = x := Option.some.inj hj
      have F := hfd 30 (H_k00.df "ways" 37) (by rfl)
      exact ⟨defOk_ex (N := H_k00.nsl.getD 30 []) (by rfl) F H_k00.ck30, He.glo_ok X G (c.fact 30 (f := .glo "ways") (by rfl)), H_k00.bd30 F⟩
    | 31, hj =>
      obtain rfl : "way" = x := Option.some.inj hj
      have F := hfd 31 (H_k00.df "way" 38) (by rfl)
      exact ⟨defOk_ex (N := H_k00.nsl.getD 31 []) (by rfl) F H_k00.ck31, He.glo_ok X G (c.fact 31 (f := .glo "way") (by rfl)), H_k00.bd31 F⟩
    | 32, hj =>
      obtain rfl : "moved" = x := Option.some.inj hj
      have F := hfd 32 (H_k00.df "moved" 39) (by rfl)
      exact ⟨defOk_ex (N := H_k00.nsl.getD 32 []) (by rfl) F H_k00.ck32, He.glo_ok X G (c.fact 32 (f := .glo "moved") (by rfl)), H_k00.bd32 F⟩
    | 33, hj =>
      obtain rfl : "turned" = x := Option.some.inj hj
      have F := hfd 33 (H_k00.df "turned" 40) (by rfl)
      exact ⟨defOk_ex (N := H_k00.nsl.getD 33 []) (by rfl) F H_k00.ck33, He.glo_ok X G (c.fact 33 (f := .glo "turned") (by rfl)), H_k00.bd33 F⟩
    | 34, hj =>
      obtain rfl : "is_set" = x := Option.some.inj hj
      have F := hfd 34 (H_k00.df "is_set" 41) (by rfl)
      exact ⟨defOk_ex (N := H_k00.nsl.getD 34 []) (by rfl) F H_k00.ck34, He.glo_ok X G (c.fact 34 (f := .glo "is_set") (by rfl)), H_k00.bd34 F⟩
    | 35, hj =>
      obtain rfl : "counts_under" = x := Option.some.inj hj
      have F := hfd 35 (H_k00.df "counts_under" 42) (by rfl)
      exact ⟨defOk_ex (N := H_k00.nsl.getD 35 []) (by rfl) F H_k00.ck35, He.glo_ok X G (c.fact 35 (f := .glo "counts_under") (by rfl)), H_k00.bd35 F⟩
    | 36, hj =>
      obtain rfl : "counts_over" = x := Option.some.inj hj
      have F := hfd 36 (H_k00.df "counts_over" 43) (by rfl)
      exact ⟨defOk_ex (N := H_k00.nsl.getD 36 []) (by rfl) F H_k00.ck36, He.glo_ok X G (c.fact 36 (f := .glo "counts_over") (by rfl)), H_k00.bd36 F⟩
    | 37, hj =>
      obtain rfl : "lowest" = x := Option.some.inj hj
      have F := hfd 37 (H_k00.df "lowest" 44) (by rfl)
      exact ⟨defOk_ex (N := H_k00.nsl.getD 37 []) (by rfl) F H_k00.ck37, He.glo_ok X G (c.fact 37 (f := .glo "lowest") (by rfl)), H_k00.bd37 F⟩
    | 38, hj =>
      obtain rfl : "highest" = x := Option.some.inj hj
      have F := hfd 38 (H_k00.df "highest" 45) (by rfl)
      exact ⟨defOk_ex (N := H_k00.nsl.getD 38 []) (by rfl) F H_k00.ck38, He.glo_ok X G (c.fact 38 (f := .glo "highest") (by rfl)), H_k00.bd38 F⟩
    | 39, hj =>
      obtain rfl : "grown" = x := Option.some.inj hj
      have F := hfd 39 (H_k00.df "grown" 46) (by rfl)
      exact ⟨defOk_ex (N := H_k00.nsl.getD 39 []) (by rfl) F H_k00.ck39, He.glo_ok X G (c.fact 39 (f := .glo "grown") (by rfl)), H_k00.bd39 F⟩
    | 40, hj =>
      obtain rfl : "shrunk" = x := Option.some.inj hj
      have F := hfd 40 (H_k00.df "shrunk" 47) (by rfl)
      exact ⟨defOk_ex (N := H_k00.nsl.getD 40 []) (by rfl) F H_k00.ck40, He.glo_ok X G (c.fact 40 (f := .glo "shrunk") (by rfl)), H_k00.bd40 F⟩
    | 41, hj =>
      obtain rfl : "least_over" = x := Option.some.inj hj
      have F := hfd 41 (H_k00.df "least_over" 48) (by rfl)
      exact ⟨defOk_ex (N := H_k00.nsl.getD 41 []) (by rfl) F H_k00.ck41, He.glo_ok X G (c.fact 41 (f := .glo "least_over") (by rfl)), H_k00.bd41 F⟩
    | 42, hj =>
      obtain rfl : "most_under" = x := Option.some.inj hj
      have F := hfd 42 (H_k00.df "most_under" 49) (by rfl)
      exact ⟨defOk_ex (N := H_k00.nsl.getD 42 []) (by rfl) F H_k00.ck42, He.glo_ok X G (c.fact 42 (f := .glo "most_under") (by rfl)), H_k00.bd42 F⟩
    | 43, hj =>
      obtain rfl : "_law_numbers" = x := Option.some.inj hj
      have F := hfd 43 (H_k00.df "_law_numbers" 51) (by rfl)
      exact ⟨defOk_ex (N := H_k00.nsl.getD 43 []) (by rfl) F H_k00.ck43, He.glo_ok X G (c.fact 43 (f := .glo "_law_numbers") (by rfl)), H_k00.bd43 F⟩
    | 44, hj =>
      obtain rfl : "_law_draw" = x := Option.some.inj hj
      have F := hfd 44 (H_k00.df "_law_draw" 52) (by rfl)
      exact ⟨defOk_ex (N := H_k00.nsl.getD 44 []) (by rfl) F H_k00.ck44, He.glo_ok X G (c.fact 44 (f := .glo "_law_draw") (by rfl)), H_k00.bd44 F⟩
    | 45, hj =>
      obtain rfl : "_law_same" = x := Option.some.inj hj
      have F := hfd 45 (H_k00.df "_law_same" 53) (by rfl)
      exact ⟨defOk_ex (N := H_k00.nsl.getD 45 []) (by rfl) F H_k00.ck45, He.glo_ok X G (c.fact 45 (f := .glo "_law_same") (by rfl)), H_k00.bd45 F⟩
    | 46, hj =>
      obtain rfl : "_law_cells" = x := Option.some.inj hj
      have F := hfd 46 (H_k00.df "_law_cells" 54) (by rfl)
      exact ⟨defOk_ex (N := H_k00.nsl.getD 46 []) (by rfl) F H_k00.ck46, He.glo_ok X G (c.fact 46 (f := .glo "_law_cells") (by rfl)), H_k00.bd46 F⟩
    | 47, hj =>
      obtain rfl : "_law_state" = x := Option.some.inj hj
      have F := hfd 47 (H_k00.df "_law_state" 55) (by rfl)
      exact ⟨defOk_ex (N := H_k00.nsl.getD 47 []) (by rfl) F H_k00.ck47, He.glo_ok X G (c.fact 47 (f := .glo "_law_state") (by rfl)), H_k00.bd47 F⟩
    | 48, hj =>
      obtain rfl : "_law_grows" = x := Option.some.inj hj
      have F := hfd 48 (H_k00.df "_law_grows" 56) (by rfl)
      exact ⟨defOk_ex (N := H_k00.nsl.getD 48 []) (by rfl) F H_k00.ck48, He.glo_ok X G (c.fact 48 (f := .glo "_law_grows") (by rfl)), H_k00.bd48 F⟩
    | 49, hj =>
      obtain rfl : "_law_all" = x := Option.some.inj hj
      have F := hfd 49 (H_k00.df "_law_all" 57) (by rfl)
      exact ⟨defOk_ex (N := H_k00.nsl.getD 49 []) (by rfl) F H_k00.ck49, He.glo_ok X G (c.fact 49 (f := .glo "_law_all") (by rfl)), H_k00.bd49 F⟩
    | 50, hj =>
      obtain rfl : "_law_seats" = x := Option.some.inj hj
      have F := hfd 50 (H_k00.df "_law_seats" 58) (by rfl)
      exact ⟨defOk_ex (N := H_k00.nsl.getD 50 []) (by rfl) F H_k00.ck50, He.glo_ok X G (c.fact 50 (f := .glo "_law_seats") (by rfl)), H_k00.bd50 F⟩
    | 51, hj =>
      obtain rfl : "_law_two" = x := Option.some.inj hj
      have F := hfd 51 (H_k00.df "_law_two" 59) (by rfl)
      exact ⟨defOk_ex (N := H_k00.nsl.getD 51 []) (by rfl) F H_k00.ck51, He.glo_ok X G (c.fact 51 (f := .glo "_law_two") (by rfl)), H_k00.bd51 F⟩
    | 52, hj =>
      obtain rfl : "_law_set" = x := Option.some.inj hj
      have F := hfd 52 (H_k00.df "_law_set" 60) (by rfl)
      exact ⟨defOk_ex (N := H_k00.nsl.getD 52 []) (by rfl) F H_k00.ck52, He.glo_ok X G (c.fact 52 (f := .glo "_law_set") (by rfl)), H_k00.bd52 F⟩
    | 53, hj =>
      obtain rfl : "_law_told_once" = x := Option.some.inj hj
      have F := hfd 53 (H_k00.df "_law_told_once" 61) (by rfl)
      exact ⟨defOk_ex (N := H_k00.nsl.getD 53 []) (by rfl) F H_k00.ck53, He.glo_ok X G (c.fact 53 (f := .glo "_law_told_once") (by rfl)), H_k00.bd53 F⟩
    | 54, hj =>
      obtain rfl : "law" = x := Option.some.inj hj
      have F := hfd 54 (H_k00.df "law" 62) (by rfl)
      exact ⟨defOk_ex (N := H_k00.nsl.getD 54 []) (by rfl) F H_k00.ck54, He.glo_ok X G (c.fact 54 (f := .glo "law") (by rfl)), H_k00.bd54 F⟩
    | j + 55, hj => exact absurd hj (by rw [show H_k00.tx.nm[j + 55]? = none from List.getElem?_eq_none (by show 55 ≤ j + 55; omega)]; exact fun z => nomatch z)
  · intro i x hi
    match i, hi with
    | 0, hj => obtain rfl : "is_int" = x := Option.some.inj hj; exact He.glo_ok X G (c.fact 0 (f := .glo "is_int") (by rfl))
    | 1, hj => obtain rfl : "is_within" = x := Option.some.inj hj; exact He.glo_ok X G (c.fact 1 (f := .glo "is_within") (by rfl))
    | 2, hj => obtain rfl : "is_seq" = x := Option.some.inj hj; exact He.glo_ok X G (c.fact 2 (f := .glo "is_seq") (by rfl))
    | 3, hj => obtain rfl : "is_rising" = x := Option.some.inj hj; exact He.glo_ok X G (c.fact 3 (f := .glo "is_rising") (by rfl))
    | 4, hj => obtain rfl : "is_numbering" = x := Option.some.inj hj; exact He.glo_ok X G (c.fact 4 (f := .glo "is_numbering") (by rfl))
    | 5, hj => obtain rfl : "is_state_of" = x := Option.some.inj hj; exact He.glo_ok X G (c.fact 5 (f := .glo "is_state_of") (by rfl))
    | 6, hj => obtain rfl : "is_set_of" = x := Option.some.inj hj; exact He.glo_ok X G (c.fact 6 (f := .glo "is_set_of") (by rfl))
    | 7, hj => obtain rfl : "ink_of" = x := Option.some.inj hj; exact He.glo_ok X G (c.fact 7 (f := .glo "ink_of") (by rfl))
    | 8, hj => obtain rfl : "cells_in" = x := Option.some.inj hj; exact He.glo_ok X G (c.fact 8 (f := .glo "cells_in") (by rfl))
    | 9, hj => obtain rfl : "state_with" = x := Option.some.inj hj; exact He.glo_ok X G (c.fact 9 (f := .glo "state_with") (by rfl))
    | 10, hj => obtain rfl : "grows_to" = x := Option.some.inj hj; exact He.glo_ok X G (c.fact 10 (f := .glo "grows_to") (by rfl))
    | 11, hj => obtain rfl : "states_over" = x := Option.some.inj hj; exact He.glo_ok X G (c.fact 11 (f := .glo "states_over") (by rfl))
    | 12, hj => obtain rfl : "states_under" = x := Option.some.inj hj; exact He.glo_ok X G (c.fact 12 (f := .glo "states_under") (by rfl))
    | 13, hj => obtain rfl : "moved_by" = x := Option.some.inj hj; exact He.glo_ok X G (c.fact 13 (f := .glo "moved_by") (by rfl))
    | 14, hj => obtain rfl : "check_count" = x := Option.some.inj hj; exact He.glo_ok X G (c.fact 14 (f := .glo "check_count") (by rfl))
    | 15, hj => obtain rfl : "check_state" = x := Option.some.inj hj; exact He.glo_ok X G (c.fact 15 (f := .glo "check_state") (by rfl))
    | 16, hj => obtain rfl : "check_two" = x := Option.some.inj hj; exact He.glo_ok X G (c.fact 16 (f := .glo "check_two") (by rfl))
    | 17, hj => obtain rfl : "check_set" = x := Option.some.inj hj; exact He.glo_ok X G (c.fact 17 (f := .glo "check_set") (by rfl))
    | 18, hj => obtain rfl : "is_state" = x := Option.some.inj hj; exact He.glo_ok X G (c.fact 18 (f := .glo "is_state") (by rfl))
    | 19, hj => obtain rfl : "inked" = x := Option.some.inj hj; exact He.glo_ok X G (c.fact 19 (f := .glo "inked") (by rfl))
    | 20, hj => obtain rfl : "ink" = x := Option.some.inj hj; exact He.glo_ok X G (c.fact 20 (f := .glo "ink") (by rfl))
    | 21, hj => obtain rfl : "state_of" = x := Option.some.inj hj; exact He.glo_ok X G (c.fact 21 (f := .glo "state_of") (by rfl))
    | 22, hj => obtain rfl : "grows" = x := Option.some.inj hj; exact He.glo_ok X G (c.fact 22 (f := .glo "grows") (by rfl))
    | 23, hj => obtain rfl : "above" = x := Option.some.inj hj; exact He.glo_ok X G (c.fact 23 (f := .glo "above") (by rfl))
    | 24, hj => obtain rfl : "below" = x := Option.some.inj hj; exact He.glo_ok X G (c.fact 24 (f := .glo "below") (by rfl))
    | 25, hj => obtain rfl : "between" = x := Option.some.inj hj; exact He.glo_ok X G (c.fact 25 (f := .glo "between") (by rfl))
    | 26, hj => obtain rfl : "both" = x := Option.some.inj hj; exact He.glo_ok X G (c.fact 26 (f := .glo "both") (by rfl))
    | 27, hj => obtain rfl : "shared" = x := Option.some.inj hj; exact He.glo_ok X G (c.fact 27 (f := .glo "shared") (by rfl))
    | 28, hj => obtain rfl : "alone" = x := Option.some.inj hj; exact He.glo_ok X G (c.fact 28 (f := .glo "alone") (by rfl))
    | 29, hj => obtain rfl : "need" = x := Option.some.inj hj; exact He.glo_ok X G (c.fact 29 (f := .glo "need") (by rfl))
    | 30, hj => obtain rfl : "ways" = x := Option.some.inj hj; exact He.glo_ok X G (c.fact 30 (f := .glo "ways") (by rfl))
    | 31, hj => obtain rfl : "way" = x := Option.some.inj hj; exact He.glo_ok X G (c.fact 31 (f := .glo "way") (by rfl))
    | 32, hj => obtain rfl : "moved" = x := Option.some.inj hj; exact He.glo_ok X G (c.fact 32 (f := .glo "moved") (by rfl))
    | 33, hj => obtain rfl : "turned" = x := Option.some.inj hj; exact He.glo_ok X G (c.fact 33 (f := .glo "turned") (by rfl))
    | 34, hj => obtain rfl : "is_set" = x := Option.some.inj hj; exact He.glo_ok X G (c.fact 34 (f := .glo "is_set") (by rfl))
    | 35, hj => obtain rfl : "counts_under" = x := Option.some.inj hj; exact He.glo_ok X G (c.fact 35 (f := .glo "counts_under") (by rfl))
    | 36, hj => obtain rfl : "counts_over" = x := Option.some.inj hj; exact He.glo_ok X G (c.fact 36 (f := .glo "counts_over") (by rfl))
    | 37, hj => obtain rfl : "lowest" = x := Option.some.inj hj; exact He.glo_ok X G (c.fact 37 (f := .glo "lowest") (by rfl))
    | 38, hj => obtain rfl : "highest" = x := Option.some.inj hj; exact He.glo_ok X G (c.fact 38 (f := .glo "highest") (by rfl))
    | 39, hj => obtain rfl : "grown" = x := Option.some.inj hj; exact He.glo_ok X G (c.fact 39 (f := .glo "grown") (by rfl))
    | 40, hj => obtain rfl : "shrunk" = x := Option.some.inj hj; exact He.glo_ok X G (c.fact 40 (f := .glo "shrunk") (by rfl))
    | 41, hj => obtain rfl : "least_over" = x := Option.some.inj hj; exact He.glo_ok X G (c.fact 41 (f := .glo "least_over") (by rfl))
    | 42, hj => obtain rfl : "most_under" = x := Option.some.inj hj; exact He.glo_ok X G (c.fact 42 (f := .glo "most_under") (by rfl))
    | 43, hj => obtain rfl : "_law_numbers" = x := Option.some.inj hj; exact He.glo_ok X G (c.fact 43 (f := .glo "_law_numbers") (by rfl))
    | 44, hj => obtain rfl : "_law_draw" = x := Option.some.inj hj; exact He.glo_ok X G (c.fact 44 (f := .glo "_law_draw") (by rfl))
    | 45, hj => obtain rfl : "_law_same" = x := Option.some.inj hj; exact He.glo_ok X G (c.fact 45 (f := .glo "_law_same") (by rfl))
    | 46, hj => obtain rfl : "_law_cells" = x := Option.some.inj hj; exact He.glo_ok X G (c.fact 46 (f := .glo "_law_cells") (by rfl))
    | 47, hj => obtain rfl : "_law_state" = x := Option.some.inj hj; exact He.glo_ok X G (c.fact 47 (f := .glo "_law_state") (by rfl))
    | 48, hj => obtain rfl : "_law_grows" = x := Option.some.inj hj; exact He.glo_ok X G (c.fact 48 (f := .glo "_law_grows") (by rfl))
    | 49, hj => obtain rfl : "_law_all" = x := Option.some.inj hj; exact He.glo_ok X G (c.fact 49 (f := .glo "_law_all") (by rfl))
    | 50, hj => obtain rfl : "_law_seats" = x := Option.some.inj hj; exact He.glo_ok X G (c.fact 50 (f := .glo "_law_seats") (by rfl))
    | 51, hj => obtain rfl : "_law_two" = x := Option.some.inj hj; exact He.glo_ok X G (c.fact 51 (f := .glo "_law_two") (by rfl))
    | 52, hj => obtain rfl : "_law_set" = x := Option.some.inj hj; exact He.glo_ok X G (c.fact 52 (f := .glo "_law_set") (by rfl))
    | 53, hj => obtain rfl : "_law_told_once" = x := Option.some.inj hj; exact He.glo_ok X G (c.fact 53 (f := .glo "_law_told_once") (by rfl))
    | 54, hj => obtain rfl : "law" = x := Option.some.inj hj; exact He.glo_ok X G (c.fact 54 (f := .glo "law") (by rfl))
    | j + 55, hj => exact absurd hj (by rw [show H_k00.nm[j + 55]? = none from List.getElem?_eq_none (by show 55 ≤ j + 55; omega)]; exact fun z => nomatch z)
  · have F := hfd 54 (H_k00.df "law" 62) (by rfl)
    have b := FunD.bindsA (ps := [Str.ofString "script"]) F fun _ _ _ _ _ _ us hl => match us, hl with | [_], _ => rfl
    exact fun s u => b s [u] rfl
end Py
open PySem PySem.W PySem.Calls PyProof.Rows
theorem end_k00 (lv : Nat) (hlv : L2.Room lv callerA) (ev : ∀ ns : List Int, ns.length ≤ 63 → ∃ st2, Py.callF k00.T lv 54 [.ro (ns.map Py.D.int)] [] = .ok (.bl true) st2) : PySem.Challenge.rw_inkdisk_k00_cells_that_stay_inked.Holds := by
  w_on; o_law
  refine HandSHeadRun.head_imp (r := OpenLaw.row PySem.Challenge.rw_inkdisk_k00_cells_that_stay_inked) (q := view (OpenLaw.row PySem.Challenge.rw_inkdisk_k00_cells_that_stay_inked).prog [62]) (H := H_k00.hk) (ob := H_k00.ob) (M := 6700) (loose := H_k00.names) (d := HandSHeadRun.topDef (OpenLaw.row PySem.Challenge.rw_inkdisk_k00_cells_that_stay_inked).prog 62) (kwd := []) H_k00.ob_eq
    H_k00.run (by kernel_rfl) (by kernel_rfl) (by kernel_rfl) (by rfl) (by first | assumption | decide +kernel) (by decide +kernel) ⟨rfl, rfl, rfl, rfl, rfl, by decide +kernel⟩ ?hw ?hc
  case hw => w_witness2
  case hc =>
    refine L2.walk_ofE (l := PySem.Challenge.rw_inkdisk_k00_cells_that_stay_inked) (n := 63) (k := lv) (x := "script") (CX := L2.CX0) rfl (by decide) (by kernel_rfl) hlv ?F (fun _ _ _ _ z => z)
    intro w mg fa h Y G hmg0
    obtain ⟨K, KX, c⟩ := Y
    have hmg : mg ("law" : PySem.Str) = some (.ref fa) := by
      have e : (HandSHeadRun.topDef (OpenLaw.row PySem.Challenge.rw_inkdisk_k00_cells_that_stay_inked).prog 62).name = ("law" : PySem.Str) := by kernel_rfl
      rw [← e]
      exact hmg0
    obtain ⟨B, hT, hG, hps, hfa, hbd⟩ := Py.head_k00 KX G c.t.d c.more
    obtain ⟨fd, hb, hF⟩ := Py.law_end (x := "law") (j := 54) (lv := lv) B hT (hG (PySem.Challenge.rw_inkdisk_k00_cells_that_stay_inked).prog w) (by rfl) (by rw [hps]; rfl) (hfa 54 "law" (by rfl)) hmg hbd ev
    exact ⟨K, fd, fun vs H Q _ => Py.spCall K B (Py.callF B.T lv) 54 vs H Q fun _ _ _ => False, KX, hb, hF⟩
end
theorem PySem.Challenge.cw_inkdisk_k00_cells_that_stay_inked_holds : PySem.Challenge.rw_inkdisk_k00_cells_that_stay_inked.Holds := by
  exact end_k00 12 ⟨rfl, by decide, by decide⟩ (fun ns _ => Py.ev_k00 ns)
