import PyProof.Rows.All
import Wide.All
import OpenK.AllK
import Wide.FinOn
import HandS.ForMost
import HandS.ForExc
import HandS.Lambda
import HandS.TupAny
import HandS.Wide
import HandS.TupLe
import HandS.IsInst
import HandS.Deep
import HandS.Style
import HandS.SortInts
import HandS.More
import HandS.Conv
import KE.KSortedM
import HandS.TupLen
import HandS.TupSets
import PyProof.EqAt
import HandS.Star
import HandS.RevTup
import HandS.Zip
import HandS.Comp
import HandS.DictComp
import HandS.Exc
import HandS.TryMany
import HandS.ExcField
import HandS.ExcOwn
import HandS.Defaults
import KE.DataMinMax
import HandS.SortKw
import PyProof.Rows.SortWalkRead
import HandS.Iter
import HandS.HeadHook2
import PyProof.ExcBaseAll.ValueError
import HandS.HeadHook4
import KE.KExcLine
import HandS.ExcInit
import PyProof.SumWalkG
import PyProof.Rows.SeqMore
import HandS.TupMul
import KE.SortData
import KE.OsSortAny
import HandS.Head0
import HandS.Head1
import HandS.Head2
import HandS.HeadEnd
import HandS.EndTab
import HandS.HeadWalk
import PySem.Challenge.RW_bothbounds_k18_errors_of_cuts
section
/-! Core: value trees, a resolved AST, an executable evaluator (value semantics with ownership flags). Pure core Lean.
    Every node's meaning is a small combinator, so that the kernel copies little when it runs a program. -/
set_option maxRecDepth 100000
set_option linter.all false
namespace PB
/-- values as trees -/
inductive T where
  | non
  | bl (b : Bool)
  | int (i : Int)
  | str (s : List Nat)
  | tup (xs : List T)
  | lst (xs : List T)
  | dct (kvs : List (T × T))
  /-- the law's script -/
  | scr (ns : List Int)
  /-- a tuple that a display made -/
  | tpd (xs : List T)
  /-- a dict of such keys: tuples of whole numbers; each value is True -/
  | dtt (ks : List T)
inductive O2 where | add | sub | mul | fdiv | mod | pow | band | bor | bxor
inductive CO where | eq | ne | lt | le | gt | ge | isin | notin | is | isnot
inductive Ty where | int | bool | str | tuple | list | dict
inductive Bi where | len | abs | int | tuple | list | sorted | all | any | max | min | max2 | min2 | max0 | sum | sum2 | repr
inductive Mt where | index | count | get
inductive Mu where | append | pop | popAt | extend
/-- one inductive for expressions, lists of them, iterables, targets, statements -/
inductive E where
  -- expressions
  | c (t : T) | v (i : Nat) | pk (i : Nat)
  | tup (es : E) | lst (es : E) | dct (kvs : E)
  | op (o : O2) (a b : E) | neg (a : E) | nt (a : E) | nv (a : E) | and (a b : E) | or (a b : E)
  | cmp (o : CO) (a b : E) | cmp2 (o o' : CO) (a b c : E)
  | ite (c a b : E) | ix (a i : E) | sl (a lo hi : E) | slr (a : E)
  | call (f : Nat) (es : E) | callv (f n : Nat) (es : E) | blt (b : Bi) (es : E) | isi (e : E) (t : Ty)
  | mth (m : Mt) (x es : E) | mut (m : Mu) (i : Nat) (es : E)
  | comp (g : E) | dcomp (g : E) | lit (it : E) | tit (it : E) | lam (f : Nat) (e : E) | hk | xp
  -- generators of a comprehension: own slots of the target
  | gen (own : List Nat) (tg it cond rest : E) | elt (e : E) | kv (k e : E)
  -- iterables
  | itl (e : E) | rng1 (a : E) | rng2 (a b : E) | rng3 (a b c : E) | enm (e : E) | zp (a b : E) | itms (e : E) | vls (e : E)
  -- lists; nothing; something; a value as a test
  | nil | cons (a r : E) | star (a r : E) | no | sm (e : E) | tv (e : E)
  -- targets
  | tn (i : Nat) | tt (ts : E) | ts (i : Nat) (x : E)
  -- statements
  | sq (a b : E) | skip | ex (e : E) | asg (t e : E) | asgp (ts es : E) | aug (i : Nat) (o : O2) (e : E) | augs (i : Nat) (x : E) (o : O2) (e : E)
  | ifs (c a b : E) | whl (c b : E) | fr (tg it b : E) | ret (e : E) | rtv (i : Nat) | rse (c : Nat) (x : E) | tr (b hs : E) | hd (c : Nat) (w : Bool) (b r : E)
/-- how a value is held: shared, new (nobody else has it), the value of slot i (looked at when it is used) -/
inductive K where | s | f | p (i : Nat)
/-- a slot: nothing, shared, owned (b: lent by the caller), lent to a loop, lent by the caller and shared since -/
inductive Sl where | no | sh (t : T) | ow (b : Bool) (t : T) | le (t : T) | fz (t : T)
abbrev Env := List Sl
inductive R (α : Type) where
  | ok (a : α) (ρ : Env)
  | exc (c : Nat) (x : T)
  | bad
def R.bind {α β : Type} (r : R α) (f : α → Env → R β) : R β :=
  match r with
  | .ok a ρ => f a ρ
  | .exc c x => .exc c x
  | .bad => .bad
/-- a value -/
structure TK where
  t : T
  k : K
/-- behind a call: the result, the parameters' slots -/
inductive Rc where
  | ret (t : T) (k : K) (outs : Env)
  | exc (c : Nat) (x : T)
  | bad
/-- what a lambda gives -/
inductive Rk where
  | ok (t : T)
  | exc (c : Nat) (x : T)
  | bad
inductive Flow where
  | next
  | ret (t : T) (k : K)
structure Fx where
  call : Nat → Env → Rc
  lam : Nat → Rk → Rc
  hook : Rk
  hx : Option T
  fuel : Nat
/-- read: a tuple is a tuple -/
def un : T → T
  | .tpd xs => .tup xs
  | t => t
/-! ### numbers, quick in the kernel -/
def iLt : Int → Int → Bool
  | .ofNat a, .ofNat b => Nat.blt a b
  | .negSucc _, .ofNat _ => true
  | .ofNat _, .negSucc _ => false
  | .negSucc a, .negSucc b => Nat.blt b a
def iEq : Int → Int → Bool
  | .ofNat a, .ofNat b => Nat.beq a b
  | .negSucc a, .negSucc b => Nat.beq a b
  | _, _ => false
def iLe (i j : Int) : Bool := !iLt j i
def b2i (b : Bool) : Int := cond b 1 0
/-! ### operations by values -/
def optBind {α β : Type} (o : Option α) (f : α → Option β) : Option β := match o with
  | some a => f a
  | none => none
def isSome {α : Type} : Option α → Bool
  | some _ => true
  | none => false
def allT (p : T → Bool) : List T → Bool
  | [] => true
  | x :: r => cond (p x) (allT p r) false
def signs : List Nat → Bool
  | [] => true
  | x :: r => cond (Nat.blt x 128) (signs r) false
/-- data: no dict within, not too deep -/
def T.dataN : Nat → T → Bool
  | _, .non => true
  | _, .bl _ => true
  | _, .int _ => true
  | _, .str s => signs s
  | n + 1, .tup xs => allT (T.dataN n) xs
  | n + 1, .tpd xs => allT (T.dataN n) xs
  | n + 1, .lst xs => allT (T.dataN n) xs
  | _, _ => false
def T.data (t : T) : Bool := T.dataN 20 t
def T.datas (l : List T) : Bool := allT (T.dataN 20) l
def strEq : List Nat → List Nat → Bool
  | [], [] => true
  | x :: xs, y :: ys => cond (Nat.beq x y) (strEq xs ys) false
  | _, _ => false
mutual
/-- == of data -/
def T.eqv : T → T → Bool
  | .non, .non => true
  | .bl a, .bl b => a == b
  | .bl a, .int j => iEq (b2i a) j
  | .int i, .bl b => iEq i (b2i b)
  | .int i, .int j => iEq i j
  | .str a, .str b => strEq a b
  | .tup a, .tup b => T.eqvs a b
  | .tup a, .tpd b => T.eqvs a b
  | .tpd a, .tup b => T.eqvs a b
  | .tpd a, .tpd b => T.eqvs a b
  | .lst a, .lst b => T.eqvs a b
  | _, _ => false
def T.eqvs : List T → List T → Bool
  | [], [] => true
  | x :: xs, y :: ys => cond (x.eqv y) (T.eqvs xs ys) false
  | _, _ => false
end
/-- keys: ints, texts, tuples of keys -/
def T.keyN : Nat → T → Bool
  | _, .int _ => true
  | _, .str s => signs s
  | n + 1, .tup xs => allT (T.keyN n) xs
  | _, _ => false
def T.isKey (t : T) : Bool := T.keyN 7 t
def T.isFlat : T → Bool
  | .int _ => true
  | .str s => signs s
  | _ => false
def T.isTup : T → Bool
  | .tup _ => true
  | .tpd _ => true
  | _ => false
/-- order of texts -/
def strLt : List Nat → List Nat → Bool
  | [], [] => false
  | [], _ :: _ => true
  | _ :: _, [] => false
  | x :: xs, y :: ys => cond (Nat.beq x y) (strLt xs ys) (Nat.blt x y)
mutual
/-- <, where it is told: ints, texts, tuples of such (every two items at one place must be told apart by ==, <) -/
def T.lt? : T → T → Option Bool
  | .int i, .int j => some (iLt i j)
  | .str a, .str b => some (strLt a b)
  | .tup a, .tup b => T.lts? a b
  | .tup a, .tpd b => T.lts? a b
  | .tpd a, .tup b => T.lts? a b
  | .tpd a, .tpd b => T.lts? a b
  | _, _ => none
def T.lts? : List T → List T → Option Bool
  | [], [] => some false
  | [], _ :: _ => some true
  | _ :: _, [] => some false
  | x :: xs, y :: ys => cond (x.data && y.data) (cond (x.eqv y) (T.lts? xs ys) (cond (isSome (T.lts? xs ys)) (x.lt? y) none)) none
end
def sizeMax : Nat := 16777216
def sized {α : Type} (l : List α) : Bool := Nat.blt l.length sizeMax
def T.le? : T → T → Option Bool
  | .int i, .int j => some (iLe i j)
  | _, _ => none
def T.tru : T → Option Bool
  | .non => some false
  | .bl b => some b
  | .int i => some (!iEq i 0)
  | .str s => cond (sized s) (some (!s.isEmpty)) none
  | .tup xs => some (!xs.isEmpty)
  | .lst xs => some (!xs.isEmpty)
  | .dct kvs => some (!kvs.isEmpty)
  | .scr _ => none
  | .tpd _ => none
  | .dtt _ => none
def digits (n : Nat) : List Nat := (Nat.toDigits 10 n).map Char.toNat
def intText (i : Int) : List Nat :=
  match i with
  | .ofNat n => digits n
  | .negSucc n => 45 :: digits (n + 1)
def plainSign (c : Nat) : Bool := Nat.ble 32 c && Nat.ble c 126 && !(Nat.beq c 39) && !(Nat.beq c 92)
mutual
/-- repr, where it is told -/
def T.repr? : T → Option (List Nat)
  | .non => some [78, 111, 110, 101]
  | .bl true => some [84, 114, 117, 101]
  | .bl false => some [70, 97, 108, 115, 101]
  | .int i => cond (Nat.blt i.natAbs.log2 1900) (some (intText i)) none
  | .str s => cond (s.all plainSign) (some (39 :: (s ++ [39]))) none
  | .tup [] => some [40, 41]
  | .tup [x] => optBind x.repr? fun a => some (40 :: (a ++ [44, 41]))
  | .tup xs => optBind (T.reprs? xs) fun a => some (40 :: (a ++ [41]))
  | .lst xs => optBind (T.reprs? xs) fun a => some (91 :: (a ++ [93]))
  | .dct _ => none
  | .scr _ => none
  | .tpd _ => none
  | .dtt _ => none
def T.reprs? : List T → Option (List Nat)
  | [] => some []
  | [x] => x.repr?
  | x :: y :: r => optBind x.repr? fun a => optBind (T.reprs? (y :: r)) fun b => some (a ++ 44 :: 32 :: b)
end
def mulOk (i j : Int) : Bool := Nat.blt (i.natAbs.log2 + j.natAbs.log2) 1000000
def divOk (j : Int) : Bool := cond (iLt 0 j) (Nat.blt j.natAbs.log2 9000) false
def addT : T → T → Option TK
  | .int i, .int j => some ⟨.int (i + j), .s⟩
  | .int i, .bl b => some ⟨.int (i + b2i b), .s⟩
  | .lst a, .lst b => cond (sized (a ++ b)) (some ⟨.lst (a ++ b), .f⟩) none
  | .tup a, .tup b => cond (sized (a ++ b)) (some ⟨.tup (a ++ b), .s⟩) none
  | .str a, .str b => cond (sized (a ++ b)) (some ⟨.str (a ++ b), .s⟩) none
  | _, _ => none
def subT : T → T → Option TK
  | .int i, .int j => some ⟨.int (i - j), .s⟩
  | _, _ => none
def mulT : T → T → Option TK
  | .int i, .int j => cond (mulOk i j) (some ⟨.int (i * j), .s⟩) none
  | .lst a, .int j => cond (iLe 0 j && iLt j 1000000) (cond (sized (List.replicate j.toNat a).flatten) (some ⟨.lst (List.replicate j.toNat a).flatten, .f⟩) none) none
  | _, _ => none
def fdivT : T → T → Option TK
  | .int i, .int j => cond (divOk j) (some ⟨.int (i / j), .s⟩) none
  | _, _ => none
def modT : T → T → Option TK
  | .int i, .int j => cond (iLt 0 j) (some ⟨.int (i % j), .s⟩) none
  | _, _ => none
def powT : T → T → Option TK
  | .int i, .int j => cond (iLe 0 j && iLt j 100000 && Nat.blt i.natAbs.log2 1000) (some ⟨.int (i ^ j.toNat), .s⟩) none
  | _, _ => none
def op2 : O2 → T → T → Option TK
  | .add => addT
  | .sub => subT
  | .mul => mulT
  | .fdiv => fdivT
  | .mod => modT
  | .pow => powT
  | _ => fun _ _ => none
/-- the place that an index means -/
def place (n : Nat) : Int → Option Nat
  | .ofNat i => cond (Nat.blt i n) (some i) none
  | .negSucc i => cond (Nat.blt i n) (some (n - (i + 1))) none
def clip (n d : Nat) : Option Int → Nat
  | none => d
  | some (.ofNat i) => cond (Nat.ble i n) i n
  | some (.negSucc i) => n - (i + 1)
def cut {α : Type} (xs : List α) (lo hi : Option Int) : List α :=
  (xs.drop (clip xs.length 0 lo)).take (clip xs.length xs.length hi - clip xs.length 0 lo)
def nth {α : Type} : List α → Nat → Option α
  | [], _ => none
  | x :: _, 0 => some x
  | _ :: r, n + 1 => nth r n
/-- dicts: the entry of a key; the value put -/
def dGet (k : T) : List (T × T) → Option T
  | [] => none
  | (a, x) :: r => cond (a.eqv k) (some x) (dGet k r)
def dPut (k x : T) : List (T × T) → List (T × T)
  | [] => [(k, x)]
  | (a, y) :: r => cond (a.eqv k) ((a, x) :: r) ((a, y) :: dPut k x r)
/-- the key is of the kind of the first one: ints and texts, or tuples of keys -/
def kindOk (k : T) : List (T × T) → Bool
  | [] => k.isFlat
  | (a, _) :: _ => cond a.isTup false k.isFlat
/-- a display's pairs, put one after the other -/
def dOf : List T → List (T × T) → Option (List (T × T))
  | [], d => some d
  | k :: x :: r, d => cond (kindOk k d) (dOf r (dPut k x d)) none
  | _, _ => none
/-- the items that one walks -/
def T.items : T → Option (List T)
  | .lst xs => some xs
  | .tup xs => some xs
  | _ => none
/-- of a list or a tuple -/
def T.seq : T → Option (List T)
  | .lst xs => some xs
  | .tup xs => some xs
  | _ => none
def isTrue : Option Bool → Bool
  | some b => b
  | none => false
def lessAll (x : T) : List T → Bool
  | [] => true
  | y :: r => cond (isSome (x.lt? y)) (cond (isSome (y.lt? x)) (lessAll x r) false) false
def comparable : List T → Bool
  | [] => true
  | x :: r => cond (lessAll x r) (comparable r) false
/-- stable: an item goes ahead of its equals that stood behind it -/
def insert (x : T) : List T → List T
  | [] => [x]
  | y :: r => cond (isTrue (y.lt? x)) (y :: insert x r) (x :: y :: r)
def sort : List T → List T
  | [] => []
  | x :: r => insert x (sort r)
def allInts : List T → Option (List Int)
  | [] => some []
  | .int i :: r => optBind (allInts r) fun l => some (i :: l)
  | _ :: _ => none
def allBls : List T → Option (List Bool)
  | [] => some []
  | .bl i :: r => optBind (allBls r) fun l => some (i :: l)
  | _ :: _ => none
def allLsts : List T → Option (List (List T))
  | [] => some []
  | .lst i :: r => optBind (allLsts r) fun l => some (i :: l)
  | _ :: _ => none
def maxI : Int → List Int → Int
  | m, [] => m
  | m, x :: r => maxI (cond (iLt m x) x m) r
def minI : Int → List Int → Int
  | m, [] => m
  | m, x :: r => minI (cond (iLt x m) x m) r
def sumI : List Int → Int → Int
  | [], a => a
  | x :: r, a => sumI r (a + x)
def andB : List Bool → Bool
  | [] => true
  | x :: r => cond x (andB r) false
def orB : List Bool → Bool
  | [] => false
  | x :: r => cond x true (orB r)
def T.len : T → Option Nat
  | .lst xs => some xs.length
  | .tup xs => some xs.length
  | .dct kvs => some kvs.length
  | .str s => cond (sized s) (some s.length) none
  | .scr ns => some ns.length
  | .dtt ks => some ks.length
  | _ => none
def lenB : List T → Option TK
  | [x] => optBind x.len fun n => some ⟨.int (.ofNat n), .s⟩
  | _ => none
def absB : List T → Option TK
  | [.int i] => some ⟨.int (cond (iLt i 0) (-i) i), .s⟩
  | _ => none
def intB : List T → Option TK
  | [.int i] => some ⟨.int i, .s⟩
  | [.bl b] => some ⟨.int (b2i b), .s⟩
  | _ => none
def tupleB : List T → Option TK
  | [.tup xs] => some ⟨.tup xs, .s⟩
  | [.lst xs] => some ⟨.tup xs, .s⟩
  | _ => none
def listB : List T → Option TK
  | [.lst xs] => some ⟨.lst xs, .f⟩
  | [.tup xs] => some ⟨.lst xs, .f⟩
  | [.dct kvs] => some ⟨.lst (kvs.map (·.1)), .f⟩
  | [.dtt ks] => some ⟨.lst ks, .f⟩
  | _ => none
def small64 (i : Int) : Bool := cond (iLt i 0) false (iLt i 64)
/-- pairs of small numbers, as numbers -/
def pairT : T → Option Int
  | .tup [.int i, .int j] => cond (small64 i) (cond (small64 j) (some (i * 64 + j)) none) none
  | .tpd [.int i, .int j] => cond (small64 i) (cond (small64 j) (some (i * 64 + j)) none) none
  | _ => none
def allPairs : List T → Option (List Int)
  | [] => some []
  | t :: r => optBind (pairT t) fun c => optBind (allPairs r) fun l => some (c :: l)
def unpair : T → T
  | .int c => .tup [.int (c / 64), .int (c % 64)]
  | t => t
def sortedL (xs : List T) : Option (List Int) → Option TK
  | some _ => some ⟨.lst (sort xs), .f⟩
  | none => cond (Nat.blt xs.length 64) (optBind (allPairs xs) fun cs => some ⟨.lst ((sort (cs.map T.int)).map unpair), .f⟩) none
/-- what is sorted here: ints; pairs of small ints; the keys of a small dict of ints -/
def sortedB : List T → Option TK
  | [.lst xs] => sortedL xs (allInts xs)
  | [.dct kvs] => cond (Nat.blt kvs.length 64) (optBind (allInts (kvs.map (·.1))) fun _ => some ⟨.lst (sort (kvs.map (·.1))), .f⟩) none
  | _ => none
def allB : List T → Option TK
  | [.lst xs] => optBind (allBls xs) fun l => some ⟨.bl (andB l), .s⟩
  | _ => none
def anyB : List T → Option TK
  | [.lst xs] => optBind (allBls xs) fun l => some ⟨.bl (orB l), .s⟩
  | _ => none
def maxOf : List Int → Option TK
  | i :: r => some ⟨.int (maxI i r), .s⟩
  | [] => none
def minOf : List Int → Option TK
  | i :: r => some ⟨.int (minI i r), .s⟩
  | [] => none
def maxB : List T → Option TK
  | [.lst l] => optBind (allInts l) maxOf
  | _ => none
def minB : List T → Option TK
  | [.lst l] => optBind (allInts l) minOf
  | _ => none
def max2B : List T → Option TK
  | [.int i, .int j] => some ⟨.int (cond (iLt i j) j i), .s⟩
  | _ => none
def min2B : List T → Option TK
  | [.int i, .int j] => some ⟨.int (cond (iLt j i) j i), .s⟩
  | _ => none
def max0B : List T → Option TK
  | [.lst []] => some ⟨.int 0, .s⟩
  | [.lst xs] => optBind (allInts xs) maxOf
  | _ => none
def sumB : List T → Option TK
  | [.lst xs] => optBind (allInts xs) fun l => some ⟨.int (sumI l 0), .s⟩
  | _ => none
def sum2B : List T → Option TK
  | [.lst (x :: xs), .lst []] => optBind (allLsts (x :: xs)) fun l => cond (sized l.flatten) (some ⟨.lst l.flatten, .f⟩) none
  | _ => none
def reprB : List T → Option TK
  | [x] => optBind x.repr? fun s => some ⟨.str s, .s⟩
  | _ => none
def blt1 : Bi → List T → Option TK
  | .len => lenB
  | .abs => absB
  | .int => intB
  | .tuple => tupleB
  | .list => listB
  | .sorted => sortedB
  | .all => allB
  | .any => anyB
  | .max => maxB
  | .min => minB
  | .max2 => max2B
  | .min2 => min2B
  | .max0 => max0B
  | .sum => sumB
  | .sum2 => sum2B
  | .repr => reprB
def isInt : T → Bool
  | .int _ => true
  | .bl _ => true
  | _ => false
def isBool : T → Bool
  | .bl _ => true
  | _ => false
def isStr : T → Bool
  | .str _ => true
  | _ => false
def isLst : T → Bool
  | .lst _ => true
  | _ => false
def isScr : T → Bool
  | .scr _ => true
  | _ => false
def isDct : T → Bool
  | .dct _ => true
  | .dtt _ => true
  | _ => false
def isTy : Ty → T → Bool
  | .int => isInt
  | .bool => isBool
  | .str => isStr
  | .tuple => T.isTup
  | .list => isLst
  | .dict => isDct
def memb (x : T) : List T → Bool
  | [] => false
  | y :: r => cond (y.eqv x) true (memb x r)
def eqC : T → T → Option Bool
  | .int i, .int j => some (iEq i j)
  | x, y => cond x.data (cond y.data (some (x.eqv y)) none) none
def notO : Option Bool → Option Bool
  | some b => some (!b)
  | none => none
def inC : T → T → Option Bool
  | x, .lst l => cond x.data (cond (T.datas l) (some (memb x l)) none) none
  | x, .tup l => cond x.data (cond (T.datas l) (some (memb x l)) none) none
  | x, .dct kvs => cond (kindOk x kvs) (some (isSome (dGet x kvs))) none
  | _, _ => none
def isC : T → T → Option Bool
  | .non, .non => some true
  | _, .non => some false
  | .bl a, .bl b => some (a == b)
  | _, _ => none
def gtC : T → T → Option Bool
  | .int i, .int j => some (iLt j i)
  | _, _ => none
def cmp1 : CO → T → T → Option Bool
  | .eq => eqC
  | .ne => fun x y => notO (eqC x y)
  | .lt => T.lt?
  | .gt => gtC
  | .le => T.le?
  | .ge => fun x y => y.le? x
  | .isin => inC
  | .notin => fun x y => notO (inC x y)
  | .is => isC
  | .isnot => fun x y => notO (isC x y)
def ixT : T → T → Option T
  | .lst xs, .int i => optBind (place xs.length i) fun j => nth xs j
  | .tup xs, .int i => optBind (place xs.length i) fun j => nth xs j
  | .dct kvs, k => cond (kindOk k kvs) (dGet k kvs) none
  | .scr ns, .int i => optBind (place ns.length i) fun j => optBind (nth ns j) fun z => some (.int z)
  | _, _ => none
def slT : T → Option Int → Option Int → Option TK
  | .lst xs, lo, hi => some ⟨.lst (cut xs lo hi), .f⟩
  | .tup xs, lo, hi => some ⟨.tup (cut xs lo hi), .s⟩
  | _, _, _ => none
def slrT : T → Option TK
  | .lst xs => some ⟨.lst xs.reverse, .f⟩
  | _ => none
def findIx (x : T) : List T → Nat → Option Nat
  | [], _ => none
  | y :: r, n => cond (y.eqv x) (some n) (findIx x r (n + 1))
def countIx (x : T) : List T → Nat → Nat
  | [], n => n
  | y :: r, n => cond (y.eqv x) (countIx x r (n + 1)) (countIx x r n)
def indexT : T → List T → Option TK
  | y, [x] => optBind y.seq fun l => cond x.data (cond (T.datas l) (optBind (findIx x l 0) fun n => some ⟨.int (.ofNat n), .s⟩) none) none
  | _, _ => none
def countT : T → List T → Option TK
  | y, [x] => optBind y.seq fun l => cond x.data (cond (T.datas l) (some ⟨.int (.ofNat (countIx x l 0)), .s⟩) none) none
  | _, _ => none
def orElse (d : T) : Option T → T
  | some x => x
  | none => d
def getT : T → List T → Option TK
  | .dct kvs, [k, d] => cond (kindOk k kvs) (some ⟨orElse d (dGet k kvs), .s⟩) none
  | _, _ => none
/-- of a list only -/
def lstOnly (f : T → List T → Option TK) : T → List T → Option TK
  | .lst l, xs => f (.lst l) xs
  | _, _ => none
def mth1 : Mt → T → List T → Option TK
  | .index => indexT
  | .count => countT
  | .get => getT
def lstM (m : Mt) : T → List T → Option TK := lstOnly (mth1 m)
/-- the receiver changed, what the call gives -/
structure T2 where
  x : T
  y : T
def appendT : T → List T → Option T2
  | .lst l, [x] => cond (sized l) (some ⟨.lst (l ++ [x]), .non⟩) none
  | _, _ => none
def lastOf : List T → Option T
  | [] => none
  | [x] => some x
  | _ :: r => lastOf r
def popT : T → List T → Option T2
  | .lst l, [] => optBind (lastOf l) fun y => some ⟨.lst l.dropLast, y⟩
  | _, _ => none
def popAtT : T → List T → Option T2
  | .lst l, [.int i] => optBind (place l.length i) fun j => optBind (nth l j) fun y => some ⟨.lst (l.eraseIdx j), y⟩
  | _, _ => none
def extendT : T → List T → Option T2
  | .lst l, [.lst m] => cond (sized (l ++ m)) (some ⟨.lst (l ++ m), .non⟩) none
  | _, _ => none
def mut1 : Mu → T → List T → Option T2
  | .append => appendT
  | .pop => popT
  | .popAt => popAtT
  | .extend => extendT
def allI : List T → Bool
  | [] => true
  | .int _ :: r => allI r
  | _ => false
/-- a key, there or at the end -/
def ttPut (k : T) : List T → List T
  | [] => [k]
  | x :: r => cond (x.eqv k) (x :: r) (x :: ttPut k r)
def setT : T → T → T → Option T
  | .lst l, .int i, x => optBind (place l.length i) fun j => some (.lst (l.set j x))
  | .dct kvs, k, x => cond (kindOk k kvs) (cond (sized kvs) (some (.dct (dPut k x kvs))) none) none
  | _, _, _ => none
/-! ### slots -/
def slotAt : Env → Nat → Sl
  | [], _ => .no
  | s :: _, 0 => s
  | _ :: r, n + 1 => slotAt r n
def put : Env → Nat → Sl → Env
  | [], _, _ => []
  | _ :: r, 0, s => s :: r
  | x :: r, n + 1, s => x :: put r n s
def rdV1 (i : Nat) (ρ : Env) : Sl → R TK
  | .sh t => .ok ⟨t, .s⟩ ρ
  | .fz t => .ok ⟨t, .s⟩ ρ
  | .ow b t => .ok ⟨t, .s⟩ (put ρ i (cond b (.fz t) (.sh t)))
  | _ => .bad
def rdV (i : Nat) (ρ : Env) : R TK := rdV1 i ρ (slotAt ρ i)
def rdP1 (i : Nat) (ρ : Env) : Sl → R TK
  | .sh t => .ok ⟨t, .s⟩ ρ
  | .fz t => .ok ⟨t, .s⟩ ρ
  | .ow _ _ => .ok ⟨.non, .p i⟩ ρ
  | .le _ => .ok ⟨.non, .p i⟩ ρ
  | .no => .bad
def rdP (i : Nat) (ρ : Env) : R TK := rdP1 i ρ (slotAt ρ i)
/-- the tree of a slot -/
def treeOf : Sl → T
  | .sh t => t
  | .ow _ t => t
  | .le t => t
  | .fz t => t
  | .no => .non
def val1 (ρ : Env) (t : T) : K → T
  | .p i => un (treeOf (slotAt ρ i))
  | _ => un t
/-- a value's tree when it is used -/
def val (ρ : Env) (x : TK) : T := val1 ρ x.t x.k
/-- a value that may be put into something -/
def giv1 : TK → Option T
  | ⟨t, .s⟩ => some t
  | ⟨t, .f⟩ => some t
  | _ => none
def giv : List TK → Option (List T)
  | [] => some []
  | x :: r => optBind (giv1 x) fun t => optBind (giv r) fun l => some (t :: l)
def trees (ρ : Env) : List TK → List T
  | [] => []
  | x :: r => val ρ x :: trees ρ r
def memN (i : Nat) : List Nat → Bool
  | [] => false
  | j :: r => cond (Nat.beq i j) true (memN i r)
def lentT : Sl → Option T
  | .ow _ t => some t
  | _ => none
/-- the parameters' slots of a call: what is looked at is lent, if it is owned -/
def arg1 (i : Nat) (seen : List Nat) : Sl → Option Sl
  | .ow _ t => cond (memN i seen) none (some (.ow true t))
  | .sh t => some (.sh t)
  | .fz t => some (.sh t)
  | _ => none
def argS (ρ : Env) : List TK → List Nat → Option Env
  | [], _ => some []
  | ⟨t, .s⟩ :: r, seen => optBind (argS ρ r seen) fun l => some (.sh t :: l)
  | ⟨t, .f⟩ :: r, seen => optBind (argS ρ r seen) fun l => some (.ow false t :: l)
  | ⟨_, .p i⟩ :: r, seen => optBind (arg1 i seen (slotAt ρ i)) fun s => optBind (argS ρ r (i :: seen)) fun l => some (s :: l)
def back1 (i : Nat) (ρ : Env) : Sl → Sl → Option Env
  | .ow true t, .ow b _ => some (put ρ i (.ow b t))
  | .fz t, .ow b _ => some (put ρ i (cond b (.fz t) (.sh t)))
  | _, .sh _ => some ρ
  | _, .fz _ => some ρ
  | _, _ => none
/-- what was lent comes back -/
def backS : List TK → Env → Env → Option Env
  | [], _, ρ => some ρ
  | ⟨_, .p i⟩ :: r, o :: outs, ρ => optBind (back1 i ρ o (slotAt ρ i)) fun ρ => backS r outs ρ
  | _ :: r, _ :: outs, ρ => backS r outs ρ
  | _ :: _, [], _ => none
def slotOf (t : T) : K → Option Sl
  | .s => some (.sh t)
  | .f => some (.ow false t)
  | _ => none
def mayStore : Sl → Bool
  | .no => true
  | .sh _ => true
  | .ow false _ => true
  | _ => false
def ofOpt {α : Type} (o : Option α) (ρ : Env) : R α := match o with
  | some a => .ok a ρ
  | none => .bad
def setSlot (i : Nat) (x : TK) (ρ : Env) : R Unit :=
  match slotOf x.t x.k with
  | some s => cond (mayStore (slotAt ρ i)) (.ok () (put ρ i s)) .bad
  | none => .bad
/-- slots of a comprehension's target, emptied -/
def wipe : List Nat → Env → Env
  | [], ρ => ρ
  | i :: r, ρ => wipe r (put ρ i .no)
/-- .. and put back as they were in ρ₀ -/
def unwipe (ρ₀ : Env) : List Nat → Env → Env
  | [], ρ => ρ
  | i :: r, ρ => unwipe ρ₀ r (put ρ i (slotAt ρ₀ i))
/-- the slots that an iterable looks at -/
def pk1 : E → List Nat
  | .pk i => [i]
  | _ => []
def pks : E → List Nat
  | .itl a => pk1 a
  | .enm a => pk1 a
  | .itms a => pk1 a
  | .vls a => pk1 a
  | .zp a b => pk1 a ++ pk1 b
  | _ => []
def lend1 : Sl → Sl
  | .ow _ t => .le t
  | s => s
def lend : List Nat → Env → Env
  | [], ρ => ρ
  | i :: r, ρ => lend r (put ρ i (lend1 (slotAt ρ i)))
def unlend1 (i : Nat) (ρ : Env) : Sl → Env
  | .ow b t => put ρ i (.ow b t)
  | _ => ρ
/-- the lent slots as they were -/
def unlend (ρ₀ : Env) : List Nat → Env → Env
  | [], ρ => ρ
  | i :: r, ρ => unlend ρ₀ r (unlend1 i ρ (slotAt ρ₀ i))
def R.mapEnv {α : Type} (f : Env → Env) : R α → R α
  | .ok a ρ => .ok a (f ρ)
  | .exc c x => .exc c x
  | .bad => .bad
/-- so many items -/
def lenE : E → Nat
  | .cons _ r => lenE r + 1
  | _ => 0
/-- own slots of all clauses -/
def owns : E → List Nat
  | .gen own _ _ _ r => own ++ owns r
  | _ => []
/-! ### loops -/
def thenF (k : Env → R Flow) (fl : Flow) (ρ : Env) : R Flow := match fl with
  | .next => k ρ
  | .ret t k => .ok (.ret t k) ρ
def whileL (tst : Env → R Bool) (body : Env → R Flow) : Nat → Env → R Flow
  | 0, _ => .bad
  | n + 1, ρ => (tst ρ).bind fun b ρ => cond b ((body ρ).bind (thenF (whileL tst body n))) (.ok .next ρ)
def forL (body : T → Env → R Flow) : List T → Env → R Flow
  | [], ρ => .ok .next ρ
  | x :: r, ρ => (body x ρ).bind (thenF (forL body r))
def compL (step : T → Env → R (List T)) : List T → Env → R (List T)
  | [], ρ => .ok [] ρ
  | x :: r, ρ => (step x ρ).bind fun l ρ => (compL step r ρ).bind fun m ρ => .ok (l ++ m) ρ
def dcompL (step : T → List (T × T) → Env → R (List (T × T))) : List T → List (T × T) → Env → R (List (T × T))
  | [], d, ρ => .ok d ρ
  | x :: r, d, ρ => (step x d ρ).bind fun d ρ => dcompL step r d ρ
def rangeL (lo : Int) : Nat → List T
  | 0 => []
  | n + 1 => .int lo :: rangeL (lo + 1) n
def rangeD (lo : Int) : Nat → List T
  | 0 => []
  | n + 1 => .int lo :: rangeD (lo - 1) n
def small (i : Int) : Bool := iLt (-1000000000) i && iLt i 1000000000
def enumL (n : Nat) : List T → List T
  | [] => []
  | x :: r => .tup [.int (.ofNat n), x] :: enumL (n + 1) r
def zipL : List T → List T → List T
  | x :: xs, y :: ys => .tup [x, y] :: zipL xs ys
  | _, _ => []
def itemsL : List (T × T) → List T
  | [] => []
  | p :: r => .tup [p.1, p.2] :: itemsL r
def shared : List T → List TK
  | [] => []
  | t :: r => ⟨t, .s⟩ :: shared r
/-! ### the nodes' meanings -/
abbrev EV := Env → R TK
abbrev EVs := Env → R (List TK)
def okB (ρ : Env) : Option Bool → R TK
  | some b => .ok ⟨.bl b, .s⟩ ρ
  | none => .bad
def cK (t : T) : EV := fun ρ => .ok ⟨t, .s⟩ ρ
def tupK (es : EVs) : EV := fun ρ => (es ρ).bind fun l ρ => match giv l with
  | some ts => cond (sized ts) (.ok ⟨.tpd ts, .s⟩ ρ) .bad
  | none => .bad
def lstK (es : EVs) : EV := fun ρ => (es ρ).bind fun l ρ => match giv l with
  | some ts => cond (sized ts) (.ok ⟨.lst ts, .f⟩ ρ) .bad
  | none => .bad
def dctK (es : EVs) : EV := fun ρ => (es ρ).bind fun l ρ => match optBind (giv l) fun ts => dOf ts [] with
  | some d => .ok ⟨.dct d, .f⟩ ρ
  | none => .bad
def opK (o : O2) (a b : EV) : EV := fun ρ => (a ρ).bind fun x ρ => (b ρ).bind fun y ρ => ofOpt (op2 o (val ρ x) (val ρ y)) ρ
def negT : T → Option TK
  | .int i => some ⟨.int (-i), .s⟩
  | _ => none
def negK (a : EV) : EV := fun ρ => (a ρ).bind fun x ρ => ofOpt (negT (val ρ x)) ρ
def nvK (a : EV) : EV := fun ρ => (a ρ).bind fun x ρ => okB ρ (notO (val ρ x).tru)
def and1 (b : EV) (ρ : Env) : T → R TK
  | .bl r => cond r (b ρ) (.ok ⟨.bl false, .s⟩ ρ)
  | _ => .bad
def andK (a b : EV) : EV := fun ρ => (a ρ).bind fun x ρ => and1 b ρ (val ρ x)
def or1 (b : EV) (ρ : Env) : T → R TK
  | .bl r => cond r (.ok ⟨.bl true, .s⟩ ρ) (b ρ)
  | _ => .bad
def orK (a b : EV) : EV := fun ρ => (a ρ).bind fun x ρ => or1 b ρ (val ρ x)
def cmpK (o : CO) (a b : EV) : EV := fun ρ => (a ρ).bind fun x ρ => (b ρ).bind fun y ρ => okB ρ (cmp1 o (val ρ x) (val ρ y))
def cmp2b (o' : CO) (c : EV) (j : Int) (ρ : Env) : Option Bool → R TK
  | some r => cond r ((c ρ).bind fun z ρ => okB ρ (cmp1 o' (.int j) (val ρ z))) (.ok ⟨.bl false, .s⟩ ρ)
  | none => .bad
/-- the middle one is a whole number -/
def cmp2a (o o' : CO) (c : EV) (x : T) (ρ : Env) : T → R TK
  | .int j => cmp2b o' c j ρ (cmp1 o x (.int j))
  | _ => .bad
def cmp2K (o o' : CO) (a b c : EV) : EV := fun ρ => (a ρ).bind fun x ρ => (b ρ).bind fun y ρ => cmp2a o o' c (val ρ x) ρ (val ρ y)
def iteK {α : Type} (c : Env → R Bool) (a b : Env → R α) : Env → R α := fun ρ => (c ρ).bind fun r ρ => cond r (a ρ) (b ρ)
def ixK (a i : EV) : EV := fun ρ => (a ρ).bind fun x ρ => (i ρ).bind fun y ρ => match ixT (val ρ x) (val ρ y) with
  | some t => .ok ⟨t, .s⟩ ρ
  | none => .bad
def slK (a : EV) (lo hi : Env → R (Option Int)) : EV := fun ρ => (a ρ).bind fun x ρ => (lo ρ).bind fun l ρ => (hi ρ).bind fun h ρ => ofOpt (slT (val ρ x) l h) ρ
def slrK (a : EV) : EV := fun ρ => (a ρ).bind fun x ρ => ofOpt (slrT (val ρ x)) ρ
def noP : K → Bool
  | .p _ => false
  | _ => true
def call2 (l : List TK) (ρ : Env) : Rc → R TK
  | .ret t k outs => cond (noP k) (match backS l outs ρ with
    | some ρ => .ok ⟨t, k⟩ ρ
    | none => .bad) .bad
  | .exc c x => .exc c x
  | .bad => .bad
/-- the arguments beyond the first n go in as a tuple -/
def packL (n : Nat) (l : List TK) : Option (List TK) := optBind (giv (l.drop n)) fun ts => cond (sized ts) (some (l.take n ++ [⟨.tup ts, .s⟩])) none
def callA (f : Env → Rc) (ρ : Env) (l : List TK) : R TK := match argS ρ l [] with
  | some sl => call2 l ρ (f sl)
  | none => .bad
def callK (f : Env → Rc) (es : EVs) : EV := fun ρ => (es ρ).bind fun l ρ => callA f ρ l
def callvK (f : Env → Rc) (n : Nat) (es : EVs) : EV := fun ρ => (es ρ).bind fun l ρ => cond (Nat.ble n l.length) (match packL n l with
  | some l' => callA f ρ l'
  | none => .bad) .bad
def bltK (b : Bi) (es : EVs) : EV := fun ρ => (es ρ).bind fun l ρ => ofOpt (blt1 b (trees ρ l)) ρ
def isiK (e : EV) (t : Ty) : EV := fun ρ => (e ρ).bind fun x ρ => cond (isScr (val ρ x)) .bad (.ok ⟨.bl (isTy t (val ρ x)), .s⟩ ρ)
def mthK (m : Mt) (x : EV) (es : EVs) : EV := fun ρ => (x ρ).bind fun y ρ => cond (isLst (val ρ y)) ((es ρ).bind fun l ρ => ofOpt (lstM m (val ρ y) (trees ρ l)) ρ) .bad
/-- t.count(x), t a tuple that a display made -/
def raw1 (ρ : Env) (t : T) : K → T
  | .p i => treeOf (slotAt ρ i)
  | _ => t
def raw (ρ : Env) (x : TK) : T := raw1 ρ x.t x.k
def tcnt (es : EVs) (ρ : Env) : T → R TK
  | .tpd l => (es ρ).bind fun xs ρ => ofOpt (countT (.tup l) (trees ρ xs)) ρ
  | _ => .bad
def tcntK (x : EV) (es : EVs) : EV := fun ρ => (x ρ).bind fun y ρ => tcnt es ρ (raw ρ y)
def mut2 (m : Mu) (i : Nat) (ts : List T) (ρ : Env) : Sl → R TK
  | .ow b t => (match mut1 m t ts with
    | some ⟨t', y⟩ => .ok ⟨y, .s⟩ (put ρ i (.ow b t'))
    | none => .bad)
  | _ => .bad
def isOwl : Sl → Bool
  | .ow _ t => isLst t
  | _ => false
def givM (ρ : Env) : Mu → List TK → Option (List T)
  | .extend => fun l => some (trees ρ l)
  | _ => giv
def mutK (m : Mu) (i : Nat) (es : EVs) : EV := fun ρ => cond (isOwl (slotAt ρ i)) ((es ρ).bind fun l ρ => match givM ρ m l with
  | some ts => mut2 m i ts ρ (slotAt ρ i)
  | none => .bad) .bad
def comp1 (ρ : Env) (own : List Nat) : R (List T) → R TK
  | .ok l ρ' => cond (sized l) (.ok ⟨.lst l, .f⟩ (unwipe ρ own ρ')) .bad
  | _ => .bad
def compK (own : List Nat) (g : Env → R (List T)) : EV := fun ρ => comp1 ρ own (g (wipe own ρ))
def dcomp1 (ρ : Env) (own : List Nat) : R (List (T × T)) → R TK
  | .ok l ρ' => cond (sized l) (.ok ⟨.dct l, .f⟩ (unwipe ρ own ρ')) .bad
  | _ => .bad
def dcompK (own : List Nat) (g : Env → List (T × T) → R (List (T × T))) : EV := fun ρ => dcomp1 ρ own (g (wipe own ρ) [])
def litK (it : Env → R (List T)) : EV := fun ρ => (it ρ).bind fun l ρ => cond (sized l) (.ok ⟨.lst l, .f⟩ ρ) .bad
def titK (it : Env → R (List T)) : EV := fun ρ => (it ρ).bind fun l ρ => cond (sized l) (.ok ⟨.tup l, .s⟩ ρ) .bad
def asHook : R TK → Rk
  | .ok ⟨t, .s⟩ _ => .ok t
  | .ok ⟨t, .f⟩ _ => .ok t
  | .exc c x => .exc c x
  | _ => .bad
def ofRc (ρ : Env) : Rc → R TK
  | .ret t k _ => cond (noP k) (.ok ⟨t, k⟩ ρ) .bad
  | _ => .bad
/-- own things hidden -/
def hide1 : Sl → Sl
  | .ow _ _ => .no
  | .le _ => .no
  | s => s
def hideO : Env → Env
  | [] => []
  | s :: r => hide1 s :: hideO r
def lamK (f : Rk → Rc) (e : EV) : EV := fun ρ => ofRc ρ (f (asHook (e (hideO ρ))))
def hkK : Rk → EV
  | .ok t => fun ρ => .ok ⟨t, .s⟩ ρ
  | .exc c x => fun _ => .exc c x
  | .bad => fun _ => .bad
def xpK : Option T → EV
  | some t => fun ρ => .ok ⟨t, .s⟩ ρ
  | none => fun _ => .bad
def badK {α : Type} : Env → R α := fun _ => .bad
-- tests
def ntK (a : Env → R Bool) : Env → R Bool := fun ρ => (a ρ).bind fun b ρ => .ok (!b) ρ
def tandK (a b : Env → R Bool) : Env → R Bool := fun ρ => (a ρ).bind fun r ρ => cond r (b ρ) (.ok false ρ)
def torK (a b : Env → R Bool) : Env → R Bool := fun ρ => (a ρ).bind fun r ρ => cond r (.ok true ρ) (b ρ)
def yesK : Env → R Bool := fun ρ => .ok true ρ
def tvK (a : EV) : Env → R Bool := fun ρ => (a ρ).bind fun x ρ => ofOpt (val ρ x).tru ρ
-- a slice's part
def noK : Env → R (Option Int) := fun ρ => .ok none ρ
def smT : T → Option (Option Int)
  | .int i => some (some i)
  | _ => none
def smK (a : EV) : Env → R (Option Int) := fun ρ => (a ρ).bind fun x ρ => ofOpt (smT (val ρ x)) ρ
-- several
def nilK : EVs := fun ρ => .ok [] ρ
def consK (a : EV) (r : EVs) : EVs := fun ρ => (a ρ).bind fun x ρ => (r ρ).bind fun l ρ => .ok (x :: l) ρ
def starK (a : EV) (r : EVs) : EVs := fun ρ => (a ρ).bind fun x ρ => match (val ρ x).seq with
  | some ts => (r ρ).bind fun l ρ => .ok (shared ts ++ l) ρ
  | none => .bad
-- iterables
abbrev EI := Env → R (List T)
/-- what is looked at is lent -/
def lentOk (pk : List Nat) : K → Bool
  | .p i => memN i pk
  | _ => true
def itlK (pk : List Nat) (a : EV) : EI := fun ρ => (a ρ).bind fun x ρ => cond (lentOk pk x.k) (ofOpt (val ρ x).items ρ) .bad
def rng1T : T → Option (List T)
  | .int i => cond (small i) (some (rangeL 0 i.toNat)) none
  | _ => none
def rng2T : T → T → Option (List T)
  | .int i, .int j => cond (small i && small j) (some (rangeL i (j - i).toNat)) none
  | _, _ => none
def rng3T : T → T → T → Option (List T)
  | .int i, .int j, .int (.negSucc 0) => cond (small i && small j) (some (rangeD i (i - j).toNat)) none
  | _, _, _ => none
def rng1K (a : EV) : EI := fun ρ => (a ρ).bind fun x ρ => ofOpt (rng1T (val ρ x)) ρ
def rng2K (a b : EV) : EI := fun ρ => (a ρ).bind fun x ρ => (b ρ).bind fun y ρ => ofOpt (rng2T (val ρ x) (val ρ y)) ρ
def rng3K (a b c : EV) : EI := fun ρ => (a ρ).bind fun x ρ => (b ρ).bind fun y ρ => (c ρ).bind fun z ρ => ofOpt (rng3T (val ρ x) (val ρ y) (val ρ z)) ρ
def lstT : T → Option (List T)
  | .lst l => some l
  | _ => none
def enmK (pk : List Nat) (a : EV) : EI := fun ρ => (a ρ).bind fun x ρ => cond (lentOk pk x.k) (ofOpt (optBind (lstT (val ρ x)) fun l => some (enumL 0 l)) ρ) .bad
def zipT : T → T → Option (List T)
  | .lst l, .lst m => some (zipL l m)
  | .tup l, .tup m => some (zipL l m)
  | _, _ => none
def zp2 (pk : List Nat) (ρ : Env) : List TK → Option (List T)
  | [x, y] => cond (lentOk pk x.k && lentOk pk y.k) (zipT (val ρ x) (val ρ y)) none
  | _ => none
def zpK (pk : List Nat) (es : EVs) : EI := fun ρ => (es ρ).bind fun l ρ => ofOpt (zp2 pk ρ l) ρ
def itmsT : T → Option (List T)
  | .dct kvs => some (itemsL kvs)
  | _ => none
def vlsT : T → Option (List T)
  | .dct kvs => some (kvs.map (·.2))
  | _ => none
def itmsK (pk : List Nat) (a : EV) : EI := fun ρ => (a ρ).bind fun x ρ => cond (lentOk pk x.k) (ofOpt (itmsT (val ρ x)) ρ) .bad
def vlsK (pk : List Nat) (a : EV) : EI := fun ρ => (a ρ).bind fun x ρ => cond (lentOk pk x.k) (ofOpt (vlsT (val ρ x)) ρ) .bad
-- targets
abbrev EA := TK → Env → R Unit
def tupT : T → Option (List T)
  | .tup l => some l
  | _ => none
def ttK (n : Nat) (ts : List TK → Env → R Unit) : EA := fun x ρ => match tupT (val ρ x) with
  | some l => cond (Nat.beq l.length n) (ts (shared l) ρ) .bad
  | none => .bad
def ts1 (i : Nat) (y x : T) (ρ : Env) : Sl → R Unit
  | .ow b u => (match setT u y x with
    | some u' => .ok () (put ρ i (.ow b u'))
    | none => .bad)
  | _ => .bad
def isOw : Sl → Bool
  | .ow _ _ => true
  | _ => false
def tsK (i : Nat) (a : EV) : EA := fun x ρ => cond (isOw (slotAt ρ i)) ((a ρ).bind fun y ρ => match giv1 x with
  | some t => ts1 i (val ρ y) t ρ (slotAt ρ i)
  | none => .bad) .bad
def tnilK : List TK → Env → R Unit
  | [], ρ => .ok () ρ
  | _, _ => .bad
def tconsK (a : EA) (r : List TK → Env → R Unit) : List TK → Env → R Unit
  | x :: l, ρ => (a x ρ).bind fun _ ρ => r l ρ
  | [], _ => .bad
-- clauses
def genStep (own : List Nat) (tg : EA) (cond' : Env → R Bool) (rest : EI) (x : T) (ρ : Env) : R (List T) :=
  ((tg ⟨x, .s⟩ ρ).bind fun _ ρ => (cond' ρ).bind fun b ρ => cond b (rest ρ) (.ok [] ρ)).mapEnv (wipe own)
def genL (pk : List Nat) (step : T → Env → R (List T)) (items : List T) (ρ : Env) : R (List T) := (compL step items (lend pk ρ)).mapEnv (unlend ρ pk)
def genK (own : List Nat) (pk : List Nat) (tg : EA) (it : EI) (cond' : Env → R Bool) (rest : EI) : EI := fun ρ => (it ρ).bind fun items ρ => genL pk (genStep own tg cond' rest) items (wipe own ρ)
def eltK (a : EV) : EI := fun ρ => (a ρ).bind fun x ρ => ofOpt (giv [x]) ρ
abbrev ED := Env → List (T × T) → R (List (T × T))
def dgenStep (own : List Nat) (tg : EA) (cond' : Env → R Bool) (rest : ED) (x : T) (d : List (T × T)) (ρ : Env) : R (List (T × T)) :=
  ((tg ⟨x, .s⟩ ρ).bind fun _ ρ => (cond' ρ).bind fun b ρ => cond b (rest ρ d) (.ok d ρ)).mapEnv (wipe own)
def dgenL (pk : List Nat) (step : T → List (T × T) → Env → R (List (T × T))) (items : List T) (d : List (T × T)) (ρ : Env) : R (List (T × T)) := (dcompL step items d (lend pk ρ)).mapEnv (unlend ρ pk)
def dgenK (own : List Nat) (pk : List Nat) (tg : EA) (it : EI) (cond' : Env → R Bool) (rest : ED) : ED := fun ρ d => (it ρ).bind fun items ρ => dgenL pk (dgenStep own tg cond' rest) items d (wipe own ρ)
def kvK (k e : EV) : ED := fun ρ d => (k ρ).bind fun x ρ => (e ρ).bind fun y ρ => match giv [x, y] with
  | some _ => cond (kindOk x.t d && sized d) (.ok (dPut x.t y.t d) ρ) .bad
  | none => .bad
/-- the pairs of a dict of slot i, which is out of sight meanwhile -/
def itsK (l : List T) : EI := fun ρ => .ok l ρ
def relock (i : Nat) (b : Bool) (kvs : List (T × T)) : R TK → R TK
  | .ok ⟨t, .f⟩ ρ => .ok ⟨t, .f⟩ (put ρ i (.ow b (.dct kvs)))
  | _ => .bad
def lock1 (i : Nat) (f : List (T × T) → EV) (ρ : Env) : Sl → R TK
  | .ow b (.dct kvs) => relock i b kvs (f kvs (put ρ i .no))
  | _ => .bad
/-- .. the keys of a dict of tuples -/
def relockT (i : Nat) (b : Bool) (ks : List T) : R TK → R TK
  | .ok ⟨t, .f⟩ ρ => .ok ⟨t, .f⟩ (put ρ i (.ow b (.dtt ks)))
  | _ => .bad
def lockT1 (i : Nat) (f : List T → EV) (ρ : Env) : Sl → R TK
  | .ow b (.dtt ks) => relockT i b ks (f ks (put ρ i .no))
  | _ => .bad
def lockTK (i : Nat) (f : List T → EV) : EV := fun ρ => lockT1 i f ρ (slotAt ρ i)
def lockK (i : Nat) (f : List (T × T) → EV) : EV := fun ρ => lock1 i f ρ (slotAt ρ i)
-- statements
abbrev ES := Env → R Flow
def skipK : ES := fun ρ => .ok .next ρ
def sqK (a b : ES) : ES := fun ρ => (a ρ).bind (thenF b)
def exK (a : EV) : ES := fun ρ => (a ρ).bind fun _ ρ => .ok .next ρ
def asgK (tg : EA) (a : EV) : ES := fun ρ => (a ρ).bind fun x ρ => (tg x ρ).bind fun _ ρ => .ok .next ρ
def asgpK (n : Nat) (tg : List TK → Env → R Unit) (es : EVs) : ES := fun ρ => (es ρ).bind fun l ρ => cond (Nat.beq l.length n && isSome (giv l)) ((tg l ρ).bind fun _ ρ => .ok .next ρ) .bad
def intSl : Sl → Option T
  | .sh (.int i) => some (.int i)
  | _ => none
def intTK : TK → Option T
  | ⟨.int i, _⟩ => some (.int i)
  | _ => none
def isIntT : T → Option T
  | .int i => some (.int i)
  | _ => none
def augK (i : Nat) (o : O2) (a : EV) : ES := fun ρ => match intSl (slotAt ρ i) with
  | some x => (a ρ).bind fun y ρ => (match optBind (op2 o x (val ρ y)) intTK with
    | some r => cond (mayStore (slotAt ρ i)) (.ok .next (put ρ i (.sh r))) .bad
    | none => .bad)
  | none => .bad
def augs2 (i : Nat) (ix r : T) (ρ : Env) : Sl → R Flow
  | .ow b u => (match setT u ix r with
    | some u' => .ok .next (put ρ i (.ow b u'))
    | none => .bad)
  | _ => .bad
def augsK (i : Nat) (x : EV) (o : O2) (a : EV) : ES := fun ρ => (x ρ).bind fun ix ρ => match optBind (lentT (slotAt ρ i)) fun u => optBind (ixT u (val ρ ix)) isIntT with
  | some x => (a ρ).bind fun y ρ => (match optBind (op2 o x (val ρ y)) intTK with
    | some r => augs2 i (val ρ ix) r ρ (slotAt ρ i)
    | none => .bad)
  | none => .bad
def whlK (fuel : Nat) (c : Env → R Bool) (b : ES) : ES := whileL c b fuel
def frK (pk : List Nat) (tg : EA) (it : EI) (b : ES) : ES := fun ρ => (it ρ).bind fun items ρ =>
  (forL (fun x ρ => (tg ⟨x, .s⟩ ρ).bind fun _ ρ => b ρ) items (lend pk ρ)).mapEnv (unlend ρ pk)
def ret1 (t : T) (ρ : Env) : K → R Flow
  | .s => .ok (.ret t .s) ρ
  | .f => .ok (.ret t .f) ρ
  | _ => .bad
def retK (a : EV) : ES := fun ρ => (a ρ).bind fun x ρ => ret1 x.t ρ x.k
/-- return of a name: an own thing goes out as new -/
def rtv1 (i : Nat) (ρ : Env) : Sl → R Flow
  | .sh t => .ok (.ret t .s) ρ
  | .fz t => .ok (.ret t .s) ρ
  | .ow false t => .ok (.ret t .f) (put ρ i .no)
  | .ow true t => .ok (.ret t .s) (put ρ i (.fz t))
  | _ => .bad
def rtvK (i : Nat) : ES := fun ρ => rtv1 i ρ (slotAt ρ i)
def rseK (c : Nat) (a : EV) : ES := fun ρ => (a ρ).bind fun x ρ => match giv1 x with
  | some t => .exc c t
  | none => .bad
abbrev EH := Nat → T → ES
def nos : Nat → Env
  | 0 => []
  | n + 1 => .no :: nos n
/-- an except suite begins with no slot known -/
def allMay : Env → Bool
  | [] => true
  | s :: r => cond (mayStore s) (allMay r) false
def trK1 (n : Nat) (may : Bool) (h : EH) : R Flow → R Flow
  | .exc c x => cond may (h c x (nos n)) .bad
  | r => r
def trK (b : ES) (h : EH) : ES := fun ρ => trK1 ρ.length (allMay ρ) h (b ρ)
def hnilK : EH := fun c x _ => .exc c x
def noX {α : Type} : R α → R α
  | .exc _ _ => .bad
  | r => r
/-- (a suite that raises is not told of; a suite with a name is never run) -/
def hdK (c' : Nat) (b : T → ES) (r : EH) : EH := fun c x ρ => cond (Nat.beq c c') (noX (b x ρ)) (r c x ρ)
/-- what a def hands back that goes on by a try over its lambda: only shared things -/
def retOnly : R Flow → Rc
  | .ok (.ret t .s) _ => .ret t .s []
  | _ => .bad
/-- try: x() / clauses h / then b, in a def of n slots -/
def metK (n : Nat) (h : EH) (b : ES) : Rk → Rc
  | .ok _ => retOnly (b (nos n))
  | .exc c x => retOnly (h c x (nos n))
  | .bad => .bad
mutual
def ev (F : Fx) : E → EV
  | .c t => cK t
  | .v i => rdV i
  | .pk i => rdP i
  | .tup es => tupK (evs F es)
  | .lst es => lstK (evs F es)
  | .dct es => dctK (evs F es)
  | .op o a b => opK o (ev F a) (ev F b)
  | .neg a => negK (ev F a)
  | .nv a => nvK (ev F a)
  | .and a b => andK (ev F a) (ev F b)
  | .or a b => orK (ev F a) (ev F b)
  | .cmp o a b => cmpK o (ev F a) (ev F b)
  | .cmp2 o o' a b c => cmp2K o o' (ev F a) (ev F b) (ev F c)
  | .ite c a b => iteK (evt F c) (ev F a) (ev F b)
  | .ix a i => ixK (ev F a) (ev F i)
  | .sl a lo hi => slK (ev F a) (evo F lo) (evo F hi)
  | .slr a => slrK (ev F a)
  | .call f es => callK (F.call f) (evs F es)
  | .callv f n es => callvK (F.call f) n (evs F es)
  | .blt b es => bltK b (evs F es)
  | .isi e t => isiK (ev F e) t
  | .mth m x es => mthK m (ev F x) (evs F es)
  | .mut m i es => mutK m i (evs F es)
  | .comp g => compK (owns g) (evg F g)
  | .dcomp g => dcompK (owns g) (evd F g)
  | .lit it => litK (evi F it)
  | .tit it => titK (evi F it)
  | .lam f e => lamK (F.lam f) (ev F e)
  | .hk => hkK F.hook
  | .xp => xpK F.hx
  | _ => badK
def evt (F : Fx) : E → Env → R Bool
  | .nt a => ntK (evt F a)
  | .and a b => tandK (evt F a) (evt F b)
  | .or a b => torK (evt F a) (evt F b)
  | .no => yesK
  | .tv e => tvK (ev F e)
  | _ => badK
def evo (F : Fx) : E → Env → R (Option Int)
  | .no => noK
  | .sm e => smK (ev F e)
  | _ => badK
def evs (F : Fx) : E → EVs
  | .nil => nilK
  | .cons a r => consK (ev F a) (evs F r)
  | .star a r => starK (ev F a) (evs F r)
  | _ => badK
def evi (F : Fx) : E → EI
  | .itl e => itlK (pk1 e) (ev F e)
  | .rng1 a => rng1K (ev F a)
  | .rng2 a b => rng2K (ev F a) (ev F b)
  | .rng3 a b c => rng3K (ev F a) (ev F b) (ev F c)
  | .enm e => enmK (pk1 e) (ev F e)
  | .zp a b => zpK (pk1 a ++ pk1 b) (consK (ev F a) (consK (ev F b) nilK))
  | .itms e => itmsK (pk1 e) (ev F e)
  | .vls e => vlsK (pk1 e) (ev F e)
  | _ => badK
def asgn (F : Fx) : E → EA
  | .tn i => setSlot i
  | .tt ts => ttK (lenE ts) (asgs F ts)
  | .ts i x => tsK i (ev F x)
  | _ => fun _ _ => .bad
def asgs (F : Fx) : E → List TK → Env → R Unit
  | .nil => tnilK
  | .cons a r => tconsK (asgn F a) (asgs F r)
  | _ => fun _ _ => .bad
def evg (F : Fx) : E → EI
  | .gen own tg it cond rest => genK (own ++ owns rest) (pks it) (asgn F tg) (evi F it) (evt F cond) (evg F rest)
  | .elt e => eltK (ev F e)
  | _ => badK
def evd (F : Fx) : E → ED
  | .gen own tg it cond rest => dgenK (own ++ owns rest) (pks it) (asgn F tg) (evi F it) (evt F cond) (evd F rest)
  | .kv k e => kvK (ev F k) (ev F e)
  | _ => fun _ _ => .bad
end
mutual
def exec (F : Fx) : E → ES
  | .skip => skipK
  | .sq a b => sqK (exec F a) (exec F b)
  | .ex e => exK (ev F e)
  | .asg tg e => asgK (asgn F tg) (ev F e)
  | .asgp ts es => asgpK (lenE ts) (asgs F ts) (evs F es)
  | .aug i o e => augK i o (ev F e)
  | .augs i x o e => augsK i (ev F x) o (ev F e)
  | .ifs c a b => iteK (evt F c) (exec F a) (exec F b)
  | .whl c b => whlK F.fuel (evt F c) (exec F b)
  | .fr tg it b => frK (pks it) (asgn F tg) (evi F it) (exec F b)
  | .ret e => retK (ev F e)
  | .rtv i => rtvK i
  | .rse c e => rseK c (ev F e)
  | .tr b hs => trK (exec F b) (exech F hs)
  | _ => badK
def exech (F : Fx) : E → EH
  | .nil => hnilK
  | .hd c' w b r => hdK c' (fun _ => cond w badK (exec F b)) (exech F r)
  | _ => fun _ _ _ => .bad
end
/-! ### programs -/
structure Fd where
  np : Nat
  nl : Nat
  body : E
/-- of the parameters only those that were lent are told behind a call -/
def outs : Env → Env → Env
  | .ow true _ :: r, s :: q => s :: outs r q
  | _ :: r, _ :: q => .no :: outs r q
  | _, _ => []
def fin (sl : Env) : R Flow → Rc
  | .ok (.ret t k) ρ => cond (noP k) (.ret t k (outs sl ρ)) .bad
  | .ok .next ρ => .ret .non .s (outs sl ρ)
  | .exc c x => .exc c x
  | .bad => .bad
/-- a def of np parameters, nl other slots -/
def mkF (np nl : Nat) (r : ES) (sl : Env) : Rc := cond (Nat.beq sl.length np) (fin sl (r (sl ++ nos nl))) .bad
/-- the functions of a program, so many calls deep -/
def callF (tab : Nat → Option Fd) (fuel : Nat) : Nat → Rk → Nat → Env → Rc
  | 0, _, _, _ => .bad
  | d + 1, hk, f, sl => match tab f with
    | some fd => cond (Nat.beq sl.length fd.np)
        (fin sl (exec ⟨callF tab fuel d .bad, fun f r => callF tab fuel d r f [.no], hk, none, fuel⟩ fd.body (sl ++ nos fd.nl)))
        .bad
    | none => .bad
end PB
end

section
set_option Elab.async false
set_option linter.all false
set_option maxRecDepth 100000
set_option maxHeartbeats 4000000
/-! Sound1: what a tree means in the abstract heap. -/
namespace PB
open PySem PySem.Spec PyProof.Rows L2
/-- no table of code objects -/
def nt (o : HO) : Prop := ∀ ps, o ≠ .tbl ps
/-- nothing stands at a, or a table of code objects -/
def nn (H : Hp) (a : Addr) : Prop := ∀ o, H a = some o → ¬ nt o
theorem nn.of {H : Hp} {a : Addr} (h : H a = none) : nn H a := fun o e => by rw [h] at e; cases e
theorem nn_by {H : Hp} {a : Addr} (h : ∀ o, H a = some o → nt o → False) : nn H a := h
def toStr (s : List Nat) : Str := ⟨s.toArray⟩
theorem toStr_inj {a b : List Nat} (h : toStr a = toStr b) : a = b := by
  have := congrArg (fun s => s.cps.toList) h
  simpa [toStr] using this
theorem toStr_length (s : List Nat) : (toStr s).length = s.length := by simp [toStr, Str.length]
/-- int and text keys -/
def keyOf : T → Option Key
  | .int i => some (.inl i)
  | .str s => some (.inr (toStr s))
  | _ => none
/-- keys of tuples of whole numbers, each with True -/
def TKs (ks : List T) (kvs : List (List Key × V)) : Prop := ∃ ls : List (List Int), ks = ls.map (fun l => T.tup (l.map T.int)) ∧ kvs = ls.map fun l => (l.map Sum.inl, V.bl true)
mutual
/-- v means t; no list, no dict within stands at a place that N bars -/
inductive Rep (K : PySem.W.Frag) (H : Hp) (N : Addr → Prop) : T → V → Prop
  | non : Rep K H N .non .non
  | bl (b : Bool) : Rep K H N (.bl b) (.bl b)
  | int (i : Int) : Rep K H N (.int i) (.int i)
  | str (s : List Nat) : Rep K H N (.str s) (.str (toStr s))
  | tup {a : Addr} {ts : List T} {vs : List V} : SqT K H a vs → Reps K H N ts vs → Rep K H N (.tup ts) (.ref a)
  | lst {a : Addr} {ts : List T} {vs : List V} : H a = some (.lst vs) → ¬ N a → Reps K H N ts vs → Rep K H N (.lst ts) (.ref a)
  | scrH {a : Addr} {ob : Obj} {ns : List Int} : H a = some (.frz ob (.lst (ns.map V.int))) → ¬ N a → Rep K H N (.scr ns) (.ref a)
  | tpd {a : Addr} {ob : Obj} {ts : List T} {vs : List V} : H a = some (.frz ob (.tup vs)) → ob.dict = none → Reps K H N ts vs → Rep K H N (.tpd ts) (.ref a)
  | scrK {a : Addr} {ns : List Int} : (∀ H, SqL K H a (ns.map V.int)) → Rep K H N (.scr ns) (.ref a)
  | dct {a : Addr} {kvs : List (T × T)} {ks : List (Key × V)} : H a = some (.dK ks) → ¬ N a → RepKV K H N kvs ks → Rep K H N (.dct kvs) (.ref a)
  | dtt {a : Addr} {ks : List T} {kvs : List (List Key × V)} : H a = some (.dT kvs) → ¬ N a → TKs ks kvs → Rep K H N (.dtt ks) (.ref a)
inductive Reps (K : PySem.W.Frag) (H : Hp) (N : Addr → Prop) : List T → List V → Prop
  | nil : Reps K H N [] []
  | cons {t : T} {v : V} {ts : List T} {vs : List V} : Rep K H N t v → Reps K H N ts vs → Reps K H N (t :: ts) (v :: vs)
inductive RepKV (K : PySem.W.Frag) (H : Hp) (N : Addr → Prop) : List (T × T) → List (Key × V) → Prop
  | nil : RepKV K H N [] []
  | cons {k t : T} {c : Key} {v : V} {kvs : List (T × T)} {ks : List (Key × V)} : keyOf k = some c → Rep K H N t v → RepKV K H N kvs ks → RepKV K H N ((k, t) :: kvs) ((c, v) :: ks)
end
section
variable {K : PySem.W.Frag} {H H' : Hp} {N N' : Addr → Prop}
/-- what is kept of a tuple, a thing that is read -/
theorem sqT_keep {a : Addr} {vs : List V} (k : ∀ b o, H b = some o → (∃ xs, o = .tup xs ∨ ∃ ob, o = .frz ob (.tup xs)) → H' b = some o) (h : SqT K H a vs) : SqT K H' a vs := by
  rcases h with (h | ⟨o, h⟩) | h
  · exact .inl (.inl (k _ _ h ⟨_, .inl rfl⟩))
  · exact .inl (.inr ⟨o, k _ _ h ⟨_, .inr ⟨_, rfl⟩⟩⟩)
  · exact .inr h
mutual
/-- carried to a heap in which what N does not bar stands as before -/
theorem Rep.keep (k : ∀ b o, H b = some o → ¬ N b → nt o → H' b = some o) (kt : ∀ b o, H b = some o → (∃ xs, o = .tup xs ∨ ∃ ob, o = .frz ob (.tup xs)) → H' b = some o) (hn : ∀ b, N' b → N b ∨ nn H b) :
    ∀ (t : T) (v : V), Rep K H N t v → Rep K H' N' t v
  | _, _, .non => .non
  | _, _, .bl b => .bl b
  | _, _, .int i => .int i
  | _, _, .str s => .str s
  | _, _, .tup h r => .tup (sqT_keep kt h) (Reps.keep k kt hn _ _ r)
  | _, _, .lst h n r => .lst (k _ _ h n (fun _ z => by cases z)) (fun q => by
      rcases hn _ q with q | q
      · exact n q
      · exact q _ h (fun _ z => by cases z)) (Reps.keep k kt hn _ _ r)
  | _, _, .scrH h n => .scrH (k _ _ h n (fun _ z => by cases z)) (fun q => by
      rcases hn _ q with q | q
      · exact n q
      · exact q _ h (fun _ z => by cases z))
  | _, _, .scrK h => .scrK h
  | _, _, .tpd h d r => .tpd (kt _ _ h ⟨_, .inr ⟨_, rfl⟩⟩) d (Reps.keep k kt hn _ _ r)
  | _, _, .dct h n r => .dct (k _ _ h n (fun _ z => by cases z)) (fun q => by
      rcases hn _ q with q | q
      · exact n q
      · exact q _ h (fun _ z => by cases z)) (RepKV.keep k kt hn _ _ r)
  | _, _, .dtt h n r => .dtt (k _ _ h n (fun _ z => by cases z)) (fun q => by
      rcases hn _ q with q | q
      · exact n q
      · exact q _ h (fun _ z => by cases z)) r
theorem Reps.keep (k : ∀ b o, H b = some o → ¬ N b → nt o → H' b = some o) (kt : ∀ b o, H b = some o → (∃ xs, o = .tup xs ∨ ∃ ob, o = .frz ob (.tup xs)) → H' b = some o) (hn : ∀ b, N' b → N b ∨ nn H b) :
    ∀ (t : List T) (v : List V), Reps K H N t v → Reps K H' N' t v
  | _, _, .nil => .nil
  | _, _, .cons h r => .cons (Rep.keep k kt hn _ _ h) (Reps.keep k kt hn _ _ r)
theorem RepKV.keep (k : ∀ b o, H b = some o → ¬ N b → nt o → H' b = some o) (kt : ∀ b o, H b = some o → (∃ xs, o = .tup xs ∨ ∃ ob, o = .frz ob (.tup xs)) → H' b = some o) (hn : ∀ b, N' b → N b ∨ nn H b) :
    ∀ (t : List (T × T)) (v : List (Key × V)), RepKV K H N t v → RepKV K H' N' t v
  | _, _, .nil => .nil
  | _, _, .cons c h r => .cons c (Rep.keep k kt hn _ _ h) (RepKV.keep k kt hn _ _ r)
end
end
/-! ### slots -/
section
variable {K : PySem.W.Frag} {TB : List (Addr × Str)} {H H' H1 H2 : Hp} {N N' W W' : Addr → Prop}
/-- an own thing: a list, a dict at a -/
def OwnRep (K : PySem.W.Frag) (H : Hp) (N : Addr → Prop) (t : T) (a : Addr) : Prop :=
  (∃ ts vs, t = .lst ts ∧ H a = some (.lst vs) ∧ Reps K H N ts vs) ∨ (∃ kvs ks, t = .dct kvs ∧ H a = some (.dK ks) ∧ RepKV K H N kvs ks) ∨ ∃ ks kvs, t = .dtt ks ∧ H a = some (.dT kvs) ∧ TKs ks kvs
/-- what may be read: the thing itself may stand at a barred place -/
def RRep (K : PySem.W.Frag) (H : Hp) (N : Addr → Prop) (t : T) (v : V) : Prop :=
  Rep K H N t v ∨ (∃ a ts vs, v = .ref a ∧ t = .lst ts ∧ H a = some (.lst vs) ∧ Reps K H N ts vs) ∨ (∃ a kvs ks, v = .ref a ∧ t = .dct kvs ∧ H a = some (.dK ks) ∧ RepKV K H N kvs ks) ∨ ∃ a ks kvs, v = .ref a ∧ t = .dtt ks ∧ H a = some (.dT kvs) ∧ TKs ks kvs
theorem RRep.un {t : T} {v : V} (h : RRep K H N t v) : RRep K H N (un t) v := by
  rcases h with h | ⟨a, ts, vs, e, e', h, r⟩ | ⟨a, ts, vs, e, e', h, r⟩ | ⟨a, ts, vs, e, e', h, r⟩
  · cases h with
    | tpd h d r => exact .inl (.tup (.inl (.inr ⟨_, h⟩)) r)
    | non => exact .inl .non
    | bl b => exact .inl (.bl b)
    | int i => exact .inl (.int i)
    | str s => exact .inl (.str s)
    | tup h r => exact .inl (.tup h r)
    | lst h n r => exact .inl (.lst h n r)
    | dct h n r => exact .inl (.dct h n r)
    | dtt h n r => exact .inl (.dtt h n r)
    | scrH h n => exact .inl (.scrH h n)
    | scrK h => exact .inl (.scrK h)
  · subst e'; exact .inr (.inl ⟨a, ts, vs, e, rfl, h, r⟩)
  · subst e'; exact .inr (.inr (.inl ⟨a, ts, vs, e, rfl, h, r⟩))
  · subst e'; exact .inr (.inr (.inr ⟨a, ts, vs, e, rfl, h, r⟩))
theorem RRep.of (h : Rep K H N t v) : RRep K H N t v := .inl h
theorem RRep.own {a : Addr} (h : OwnRep K H N t a) : RRep K H N t (.ref a) := by
  rcases h with ⟨ts, vs, e, h, r⟩ | ⟨kvs, ks, e, h, r⟩ | ⟨ks, kvs, e, h, r⟩
  · exact .inr (.inl ⟨a, ts, vs, rfl, e, h, r⟩)
  · exact .inr (.inr (.inl ⟨a, kvs, ks, rfl, e, h, r⟩))
  · exact .inr (.inr (.inr ⟨a, ks, kvs, rfl, e, h, r⟩))
theorem Rep.weak (hn : ∀ b, N' b → N b) (h : Rep K H N t v) : Rep K H N' t v := h.keep (fun _ _ e _ _ => e) (fun _ _ e _ => e) (fun b q => .inl (hn b q))
theorem Reps.weak (hn : ∀ b, N' b → N b) (h : Reps K H N t v) : Reps K H N' t v := h.keep (fun _ _ e _ _ => e) (fun _ _ e _ => e) (fun b q => .inl (hn b q))
theorem RepKV.weak (hn : ∀ b, N' b → N b) (h : RepKV K H N t v) : RepKV K H N' t v := h.keep (fun _ _ e _ _ => e) (fun _ _ e _ => e) (fun b q => .inl (hn b q))
theorem RRep.weak (hn : ∀ b, N' b → N b) (h : RRep K H N t v) : RRep K H N' t v := by
  rcases h with h | ⟨a, ts, vs, e, e', h, r⟩ | ⟨a, ts, vs, e, e', h, r⟩ | ⟨a, ts, vs, e, e', h, r⟩
  · exact .inl (h.weak hn)
  · exact .inr (.inl ⟨a, ts, vs, e, e', h, r.weak hn⟩)
  · exact .inr (.inr (.inl ⟨a, ts, vs, e, e', h, r.weak hn⟩))
  · exact .inr (.inr (.inr ⟨a, ts, vs, e, e', h, r⟩))
theorem OwnRep.weak {a : Addr} (hn : ∀ b, N' b → N b) (h : OwnRep K H N t a) : OwnRep K H N' t a := by
  rcases h with ⟨ts, vs, e, h, r⟩ | ⟨kvs, ks, e, h, r⟩ | ⟨ks, kvs, e, h, r⟩
  · exact .inl ⟨ts, vs, e, h, r.weak hn⟩
  · exact .inr (.inl ⟨kvs, ks, e, h, r.weak hn⟩)
  · exact .inr (.inr ⟨ks, kvs, e, h, r⟩)
/-- objects are only added -/
def Grow (H H' : Hp) : Prop := ∀ b o, H b = some o → H' b = some o
theorem Grow.refl : Grow H H := fun _ _ e => e
theorem Grow.trans (a : Grow H H1) (b : Grow H1 H2) : Grow H H2 := fun c o e => b c o (a c o e)
theorem Grow.upd {a : Addr} {o : HO} (h : H a = none) : Grow H (upd H a o) := fun b u e => by rw [upd_ne (ne_of_none e h)]; exact e
def plus (N : Addr → Prop) (a : Addr) : Addr → Prop := fun b => N b ∨ b = a
theorem Rep.grow (g : Grow H H') (h : Rep K H N t v) : Rep K H' N t v := h.keep (fun b o e _ _ => g b o e) (fun b o e _ => g b o e) (fun _ q => .inl q)
theorem Reps.grow (g : Grow H H') (h : Reps K H N t v) : Reps K H' N t v := h.keep (fun b o e _ _ => g b o e) (fun b o e _ => g b o e) (fun _ q => .inl q)
theorem RepKV.grow (g : Grow H H') (h : RepKV K H N t v) : RepKV K H' N t v := h.keep (fun b o e _ _ => g b o e) (fun b o e _ => g b o e) (fun _ q => .inl q)
theorem plus_new {a : Addr} (na : H a = none) : ∀ b, plus N a b → N b ∨ nn H b := fun b q => by
  rcases q with q | q
  · exact .inl q
  · subst q; exact .inr (nn.of na)
theorem Rep.new {a : Addr} (g : Grow H H') (na : H a = none) (h : Rep K H N t v) : Rep K H' (plus N a) t v := h.keep (fun b o e _ _ => g b o e) (fun b o e _ => g b o e) (plus_new na)
theorem Reps.new {a : Addr} (g : Grow H H') (na : H a = none) (h : Reps K H N t v) : Reps K H' (plus N a) t v := h.keep (fun b o e _ _ => g b o e) (fun b o e _ => g b o e) (plus_new na)
theorem RepKV.new {a : Addr} (g : Grow H H') (na : H a = none) (h : RepKV K H N t v) : RepKV K H' (plus N a) t v := h.keep (fun b o e _ _ => g b o e) (fun b o e _ => g b o e) (plus_new na)
theorem OwnRep.grow {a : Addr} (g : Grow H H') (h : OwnRep K H N t a) : OwnRep K H' N t a := by
  rcases h with ⟨ts, vs, e, h, r⟩ | ⟨kvs, ks, e, h, r⟩ | ⟨ks, kvs, e, h, r⟩
  · exact .inl ⟨ts, vs, e, g _ _ h, r.grow g⟩
  · exact .inr (.inl ⟨kvs, ks, e, g _ _ h, r.grow g⟩)
  · exact .inr (.inr ⟨ks, kvs, e, g _ _ h, r⟩)
theorem OwnRep.there {a : Addr} (h : OwnRep K H N t a) : ∃ o, H a = some o := by
  rcases h with ⟨ts, vs, e, h, r⟩ | ⟨kvs, ks, e, h, r⟩ | ⟨ks, kvs, e, h, r⟩
  · exact ⟨_, h⟩
  · exact ⟨_, h⟩
  · exact ⟨_, h⟩
theorem OwnRep.thereN {a : Addr} (h : OwnRep K H N t a) : ∃ o, H a = some o ∧ nt o := by
  rcases h with ⟨ts, vs, e, h, r⟩ | ⟨kvs, ks, e, h, r⟩ | ⟨ks, kvs, e, h, r⟩
  · exact ⟨_, h, fun _ z => by cases z⟩
  · exact ⟨_, h, fun _ z => by cases z⟩
  · exact ⟨_, h, fun _ z => by cases z⟩
abbrev OA := Nat → Option Addr
def NG (W : Addr → Prop) (O : OA) : Addr → Prop := fun a => W a ∨ ∃ i, O i = some a
def SlRep (K : PySem.W.Frag) (H : Hp) (N : Addr → Prop) (s : Sl) (v : Option (Option V)) (o : Option Addr) : Prop := match s with
  | .no => o = none
  | .sh t => o = none ∧ ∃ x, v = some (some x) ∧ Rep K H N t x
  | .fz t => o = none ∧ ∃ x, v = some (some x) ∧ Rep K H N t x
  | .ow _ t => ∃ a, o = some a ∧ v = some (some (.ref a)) ∧ OwnRep K H N t a
  | .le t => ∃ a, o = some a ∧ v = some (some (.ref a)) ∧ OwnRep K H N t a
structure EnvRep (K : PySem.W.Frag) (TB : List (Addr × Str)) (H : Hp) (W : Addr → Prop) (O : OA) (σ : L2.St) (ρ : Env) : Prop where
  len : ρ.length = σ.length
  sl : ∀ i, SlRep K H (NG W O) (slotAt ρ i) σ[i]? (O i)
  inj : ∀ i j a, O i = some a → O j = some a → i = j
  out : ∀ i a, O i = some a → ¬ W a
  wt : ∀ a, W a → ∃ o, H a = some o ∧ nt o
  tab : LamX.Tabs TB H
/-- what may be changed -/
def Ow (O : OA) (ρ : Env) (b : Addr) : Prop := ∃ i bb t, O i = some b ∧ slotAt ρ i = .ow bb t
/-- from one point of an expression to a later one -/
structure Post (H : Hp) (O : OA) (ρ : Env) (H' : Hp) (O' : OA) (ρ' : Env) : Prop where
  own : ∀ i a, O' i = some a → O i = some a
  keep : ∀ b o, H b = some o → ¬ Ow O ρ b → nt o → H' b = some o
  per : ∀ b o, H b = some o → nt o → ∃ o', H' b = some o' ∧ nt o'
  ne : ∀ i, slotAt ρ i ≠ .no → slotAt ρ' i ≠ .no
  ows : ∀ i bb t, slotAt ρ' i = .ow bb t → ∃ t0, slotAt ρ i = .ow bb t0
  ms : ∀ i, mayStore (slotAt ρ i) = false → mayStore (slotAt ρ' i) = false
  le : ∀ i t, slotAt ρ i = .le t → slotAt ρ' i = .le t ∧ O' i = O i
theorem Post.refl {O : OA} {ρ : Env} : Post H O ρ H O ρ := ⟨fun _ _ e => e, fun _ _ e _ _ => e, fun _ o e z => ⟨o, e, z⟩, fun _ e => e, fun _ _ t e => ⟨t, e⟩, fun _ e => e, fun _ _ e => ⟨e, rfl⟩⟩
theorem Post.grow {O : OA} {ρ : Env} (g : Grow H H') : Post H O ρ H' O ρ := ⟨fun _ _ e => e, fun b o e _ _ => g b o e, fun b o e z => ⟨o, g b o e, z⟩, fun _ e => e, fun _ _ t e => ⟨t, e⟩, fun _ e => e, fun _ _ e => ⟨e, rfl⟩⟩
theorem Post.ow {O O1 : OA} {ρ ρ1 : Env} (p : Post H O ρ H1 O1 ρ1) {b : Addr} (h : Ow O1 ρ1 b) : Ow O ρ b := by
  obtain ⟨i, bb, t, e1, e2⟩ := h
  obtain ⟨t0, e3⟩ := p.ows i bb t e2
  exact ⟨i, bb, t0, p.own i b e1, e3⟩
theorem Post.trans {O O1 O2 : OA} {ρ ρ1 ρ2 : Env} (p : Post H O ρ H1 O1 ρ1) (q : Post H1 O1 ρ1 H2 O2 ρ2) : Post H O ρ H2 O2 ρ2 where
  own := fun i a e => p.own i a (q.own i a e)
  keep := fun b o e n z => q.keep b o (p.keep b o e n z) (fun z => n (p.ow z)) z
  per := fun b o e z => by
    obtain ⟨o1, e1, z1⟩ := p.per b o e z
    exact q.per b o1 e1 z1
  ne := fun i e => q.ne i (p.ne i e)
  ows := fun i bb t e => by
    obtain ⟨t1, e1⟩ := q.ows i bb t e
    exact p.ows i bb t1 e1
  ms := fun i e => q.ms i (p.ms i e)
  le := fun i t e => by
    obtain ⟨a, b⟩ := p.le i t e
    obtain ⟨c, d⟩ := q.le i t a
    exact ⟨c, d.trans b⟩
theorem SlRep.weak {s : Sl} {v : Option (Option V)} {o : Option Addr} (hn : ∀ b, N' b → N b) (h : SlRep K H N s v o) : SlRep K H N' s v o := by
  cases s with
  | no => exact h
  | sh t => obtain ⟨a, x, b, c⟩ := h; exact ⟨a, x, b, c.weak hn⟩
  | fz t => obtain ⟨a, x, b, c⟩ := h; exact ⟨a, x, b, c.weak hn⟩
  | ow bb t => obtain ⟨x, a, b, c⟩ := h; exact ⟨x, a, b, c.weak hn⟩
  | le t => obtain ⟨x, a, b, c⟩ := h; exact ⟨x, a, b, c.weak hn⟩
theorem SlRep.new {s : Sl} {v : Option (Option V)} {o : Option Addr} {a : Addr} (g : Grow H H') (na : H a = none) (h : SlRep K H N s v o) : SlRep K H' (plus N a) s v o := by
  cases s with
  | no => exact h
  | sh t => obtain ⟨a, x, b, c⟩ := h; exact ⟨a, x, b, c.new g na⟩
  | fz t => obtain ⟨a, x, b, c⟩ := h; exact ⟨a, x, b, c.new g na⟩
  | ow bb t =>
    obtain ⟨x, a, b, c⟩ := h
    refine ⟨x, a, b, ?_⟩
    rcases c with ⟨ts, vs, e, h, r⟩ | ⟨kvs, ks, e, h, r⟩ | ⟨ks, kvs, e, h, r⟩
    · exact .inl ⟨ts, vs, e, g _ _ h, r.new g na⟩
    · exact .inr (.inl ⟨kvs, ks, e, g _ _ h, r.new g na⟩)
    · exact .inr (.inr ⟨ks, kvs, e, g _ _ h, r⟩)
  | le t =>
    obtain ⟨x, a, b, c⟩ := h
    refine ⟨x, a, b, ?_⟩
    rcases c with ⟨ts, vs, e, h, r⟩ | ⟨kvs, ks, e, h, r⟩ | ⟨ks, kvs, e, h, r⟩
    · exact .inl ⟨ts, vs, e, g _ _ h, r.new g na⟩
    · exact .inr (.inl ⟨kvs, ks, e, g _ _ h, r.new g na⟩)
    · exact .inr (.inr ⟨ks, kvs, e, g _ _ h, r⟩)
theorem SlRep.grow {s : Sl} {v : Option (Option V)} {o : Option Addr} (g : Grow H H') (h : SlRep K H N s v o) : SlRep K H' N s v o := by
  cases s with
  | no => exact h
  | sh t => obtain ⟨a, x, b, c⟩ := h; exact ⟨a, x, b, c.grow g⟩
  | fz t => obtain ⟨a, x, b, c⟩ := h; exact ⟨a, x, b, c.grow g⟩
  | ow bb t => obtain ⟨x, a, b, c⟩ := h; exact ⟨x, a, b, c.grow g⟩
  | le t => obtain ⟨x, a, b, c⟩ := h; exact ⟨x, a, b, c.grow g⟩
theorem EnvRep.grow {O : OA} {σ : L2.St} {ρ : Env} (g : Grow H H') (h : EnvRep K TB H W O σ ρ) : EnvRep K TB H' W O σ ρ :=
  ⟨h.len, fun i => (h.sl i).grow g, h.inj, h.out, fun a w => by obtain ⟨o, e, z⟩ := h.wt a w; exact ⟨o, g a o e, z⟩, h.tab.ext g⟩
theorem EnvRep.drop {O : OA} {σ : L2.St} {ρ : Env} (hw : ∀ b, W' b → W b) (h : EnvRep K TB H W O σ ρ) : EnvRep K TB H W' O σ ρ :=
  ⟨h.len, fun i => (h.sl i).weak fun b q => q.imp (hw b) id, h.inj, fun i a e w => h.out i a e (hw a w), fun a w => h.wt a (hw a w), h.tab⟩
theorem EnvRep.oth {O : OA} {σ : L2.St} {ρ : Env} (h : EnvRep K TB H W O σ ρ) {i : Nat} {a : Addr} (e : O i = some a) : ∃ o, H a = some o := by
  have q := h.sl i
  revert q
  cases s : slotAt ρ i <;> intro q
  · have q : O i = none := q; rw [e] at q; cases q
  · obtain ⟨q, _⟩ := q; rw [e] at q; cases q
  · obtain ⟨b, q, _, r⟩ := q; rw [e] at q; cases q; exact r.there
  · obtain ⟨b, q, _, r⟩ := q; rw [e] at q; cases q; exact r.there
  · obtain ⟨q, _⟩ := q; rw [e] at q; cases q
theorem EnvRep.othN {O : OA} {σ : L2.St} {ρ : Env} (h : EnvRep K TB H W O σ ρ) {i : Nat} {a : Addr} (e : O i = some a) : ∃ o, H a = some o ∧ nt o := by
  have q := h.sl i
  revert q
  cases s : slotAt ρ i <;> intro q
  · have q : O i = none := q; rw [e] at q; cases q
  · obtain ⟨q, _⟩ := q; rw [e] at q; cases q
  · obtain ⟨b, q, _, r⟩ := q; rw [e] at q; cases q; exact r.thereN
  · obtain ⟨b, q, _, r⟩ := q; rw [e] at q; cases q; exact r.thereN
  · obtain ⟨q, _⟩ := q; rw [e] at q; cases q
theorem EnvRep.ngtN {O : OA} {σ : L2.St} {ρ : Env} (h : EnvRep K TB H W O σ ρ) {a : Addr} (n : NG W O a) : ∃ o, H a = some o ∧ nt o := by
  rcases n with n | ⟨i, n⟩
  · exact h.wt a n
  · exact h.othN n
theorem EnvRep.ngt {O : OA} {σ : L2.St} {ρ : Env} (h : EnvRep K TB H W O σ ρ) {a : Addr} (n : NG W O a) : ∃ o, H a = some o := by
  rcases n with n | ⟨i, n⟩
  · obtain ⟨o, e, _⟩ := h.wt a n; exact ⟨o, e⟩
  · exact h.oth n
theorem EnvRep.free {O : OA} {σ : L2.St} {ρ : Env} (h : EnvRep K TB H W O σ ρ) {a : Addr} (na : H a = none) : ¬ NG W O a := fun n => by
  obtain ⟨o, e⟩ := h.ngt n
  rw [na] at e; cases e
theorem ng_plus {O : OA} {a : Addr} : ∀ b, NG (plus W a) O b → plus (NG W O) a b := fun b q => by
  rcases q with (q | q) | q
  · exact .inl (.inl q)
  · exact .inr q
  · exact .inl (.inr q)
theorem plus_ng {O : OA} {a : Addr} : ∀ b, plus (NG W O) a b → NG (plus W a) O b := fun b q => by
  rcases q with (q | q) | q
  · exact .inl (.inl q)
  · exact .inr q
  · exact .inl (.inr q)
/-- a new thing, not told of by any slot -/
theorem EnvRep.new {O : OA} {σ : L2.St} {ρ : Env} {a : Addr} {o : HO} (g : Grow H H') (na : H a = none) (ha : H' a = some o) (hz : nt o) (h : EnvRep K TB H W O σ ρ) : EnvRep K TB H' (plus W a) O σ ρ :=
  ⟨h.len, fun i => ((h.sl i).new g na).weak ng_plus, h.inj, (by
    intro i b e w
    rcases w with w | w
    · exact h.out i b e w
    · subst w
      obtain ⟨o, e'⟩ := h.oth e
      rw [na] at e'; cases e'), (by
    intro b w
    rcases w with w | w
    · obtain ⟨o, e, z⟩ := h.wt b w; exact ⟨o, g b o e, z⟩
    · subst w; exact ⟨_, ha, hz⟩), h.tab.ext g⟩
/-! ### values -/
/-- a place that was new at (H, O, ρ), or somebody's own -/
def nw (H : Hp) (O : OA) (ρ : Env) : Addr → Prop := fun a => nn H a ∨ Ow O ρ a
theorem Post.nw {O O1 : OA} {ρ ρ1 : Env} (p : Post H O ρ H1 O1 ρ1) {a : Addr} (h : nw H1 O1 ρ1 a) : PB.nw H O ρ a := by
  rcases h with h | h
  · refine .inl fun o e z => ?_
    obtain ⟨o', e', z'⟩ := p.per a o e z
    exact h o' e' z'
  · exact .inr (p.ow h)
def VPost (K : PySem.W.Frag) (TB : List (Addr × Str)) (Nw : Addr → Prop) (H' : Hp) (W : Addr → Prop) (O' : OA) (σ : L2.St) (ρ' : Env) (x : TK) (v : V) : Prop := match x.k with
  | .s => Rep K H' (NG W O') x.t v ∧ EnvRep K TB H' W O' σ ρ'
  | .f => ∃ a, v = .ref a ∧ Nw a ∧ ¬ NG W O' a ∧ OwnRep K H' (NG (plus W a) O') x.t a ∧ EnvRep K TB H' (plus W a) O' σ ρ'
  | .p i => σ[i]? = some (some v) ∧ slotAt ρ' i ≠ .no ∧ EnvRep K TB H' W O' σ ρ'
theorem VPost.env {Nw : Addr → Prop} {O' : OA} {σ : L2.St} {ρ' : Env} {x : TK} {v : V} (h : VPost K TB Nw H' W O' σ ρ' x v) : EnvRep K TB H' W O' σ ρ' := by
  obtain ⟨t, k⟩ := x
  cases k with
  | s => exact h.2
  | f => obtain ⟨a, _, _, _, _, e⟩ := h; exact e.drop fun b q => .inl q
  | p i => exact h.2.2
end
end PB
end

section
set_option Elab.async false
set_option linter.all false
set_option maxRecDepth 100000
set_option maxHeartbeats 4000000
/-! Sound2: readings of the evaluator's results, and how they go one behind the other. -/
namespace PB
open PySem PySem.Spec PyProof.Rows L2
/-- a class of exceptions by its number: the class, the attribute that it keeps -/
abbrev CT := Nat → Value × Option Str
section
variable {K : PySem.W.Frag} {TB : List (Addr × Str)} {C : CT} {Wx : WX} {σ : L2.St} {H H' H1 H2 : Hp} {N N' W W' W1 : Addr → Prop} {O O' O1 : OA} {ρ ρ' ρ1 : Env}
def PayRep (K : PySem.W.Frag) (C : CT) (H : Hp) (W : Addr → Prop) (c : Nat) (x : T) (d : Option Addr) : Prop := match (C c).2 with
  | none => d = none
  | some f => ∃ dd v, d = some dd ∧ H dd = some (.xd [(f, v)]) ∧ Rep K H W x v
theorem PayRep.weak {c : Nat} {x : T} {d : Option Addr} (hw : ∀ b, W' b → W b) (h : PayRep K C H W c x d) : PayRep K C H W' c x d := by
  unfold PayRep at *
  revert h
  cases (C c).2 with
  | none => exact id
  | some f => exact fun ⟨dd, v, a, b, r⟩ => ⟨dd, v, a, b, r.weak hw⟩
structure XPost (K : PySem.W.Frag) (TB : List (Addr × Str)) (C : CT) (H : Hp) (W : Addr → Prop) (O : OA) (ρ : Env) (c : Nat) (x : T) (cls : Value) (d : Option Addr) (H' : Hp) : Prop where
  cls : cls = (C c).1
  pay : PayRep K C H' W c x d
  keep : ∀ b o, H b = some o → ¬ Ow O ρ b → nt o → H' b = some o
  tab : LamX.Tabs TB H'
  per : ∀ b o, H b = some o → nt o → ∃ o', H' b = some o' ∧ nt o'
/-- a kind of result: what the evaluator's x is worth at the end -/
structure Kd (K : PySem.W.Frag) (σ : L2.St) (α β : Type) where
  VP : (Addr → Prop) → (Addr → Prop) → α → Hp → OA → Env → β → Prop
  shift : ∀ {Nw Nw1 W W1 x H' O' ρ' b}, (∀ a, Nw1 a → Nw a) → (∀ b, W b → W1 b) → VP Nw1 W1 x H' O' ρ' b → VP Nw W x H' O' ρ' b
def Go {α β : Type} (TB : List (Addr × Str)) (C : CT) (Wx : WX) (k : Kd K σ α β) (H : Hp) (W : Addr → Prop) (O : OA) (ρ : Env) (r : R α) (Q : β → Hp → Prop) : Prop := match r with
  | .ok x ρ' => ∀ b H' O', Post H O ρ H' O' ρ' → k.VP (nw H O ρ) W x H' O' ρ' b → Q b H'
  | .exc c x => ∀ cls d σ' H', XPost K TB C H W O ρ c x cls d H' → Wx cls d σ' H'
  | .bad => False
variable {α β α' β' : Type} {k : Kd K σ α β} {k' : Kd K σ α' β'}
theorem Go.shift {r : R α} {Q : β → Hp → Prop} (g : Go TB C Wx k H W O ρ r Q) (p : Post H O ρ H1 O1 ρ1) (hw : ∀ b, W b → W1 b) : Go TB C Wx k H1 W1 O1 ρ1 r Q := by
  cases r with
  | ok x ρ' => exact fun b H' O' p' v => g b H' O' (p.trans p') (k.shift (fun _ => p.nw) hw v)
  | exc c x => exact fun cls d σ' H' x => g cls d σ' H' ⟨x.cls, x.pay.weak hw, fun b o e n z => x.keep b o (p.keep b o e n z) (fun z => n (p.ow z)) z, x.tab, fun b o e z => by
    obtain ⟨o1, e1, z1⟩ := p.per b o e z
    exact x.per b o1 e1 z1⟩
  | bad => exact g
/-- the first part of a sequence -/
theorem Go.first {r : R α} {f : α → Env → R α'} {Q : β' → Hp → Prop} {Q1 : β → Hp → Prop} (g : Go TB C Wx k' H W O ρ (r.bind f) Q)
    (h : ∀ x ρ1 b H1 O1, r = .ok x ρ1 → Post H O ρ H1 O1 ρ1 → k.VP (nw H O ρ) W x H1 O1 ρ1 b → Go TB C Wx k' H1 W O1 ρ1 (f x ρ1) Q → Q1 b H1) : Go TB C Wx k H W O ρ r Q1 := by
  cases r with
  | ok x ρ1 => exact fun b H1 O1 p v => h x ρ1 b H1 O1 rfl p v (Go.shift (r := f x ρ1) g p fun _ q => q)
  | exc c x => exact g
  | bad => exact g
/-! ### the kinds -/
theorem ng_mono (hw : ∀ b, W b → W1 b) : ∀ b, NG W O b → NG W1 O b := fun b q => q.imp (hw b) id
theorem plus_mono {a : Addr} (hw : ∀ b, W b → W1 b) : ∀ b, plus W a b → plus W1 a b := fun b q => q.imp (hw b) id
def kdV (K : PySem.W.Frag) (TB : List (Addr × Str)) (σ : L2.St) : Kd K σ TK V where
  VP := fun Nw W x H' O' ρ' v => VPost K TB Nw H' W O' σ ρ' x v
  shift := by
    intro Nw Nw1 W W1 x H' O' ρ' b p hw h
    obtain ⟨t, kk⟩ := x
    cases kk with
    | s => exact ⟨h.1.weak (ng_mono hw), h.2.drop hw⟩
    | f =>
      obtain ⟨a, e, n, ng, r, en⟩ := h
      exact ⟨a, e, p _ n, fun q => ng (ng_mono hw _ q), r.weak (ng_mono (plus_mono hw)), en.drop (plus_mono hw)⟩
    | p i => exact ⟨h.1, h.2.1, h.2.2.drop hw⟩
/-- results that are no values -/
def kdP (K : PySem.W.Frag) (TB : List (Addr × Str)) (σ : L2.St) (α : Type) : Kd K σ α α where
  VP := fun Nw W x H' O' ρ' y => y = x ∧ EnvRep K TB H' W O' σ ρ'
  shift := fun p hw h => ⟨h.1, h.2.drop hw⟩
/-- several values; fr: the new ones -/
inductive VL (K : PySem.W.Frag) (H : Hp) (N : Addr → Prop) (σ : L2.St) (ρ : Env) : List TK → List V → List Addr → Prop
  | nil : VL K H N σ ρ [] [] []
  | sh {t : T} {v : V} {l : List TK} {vs : List V} {fr : List Addr} : Rep K H N t v → VL K H N σ ρ l vs fr → VL K H N σ ρ (⟨t, .s⟩ :: l) (v :: vs) fr
  | fr {t : T} {a : Addr} {l : List TK} {vs : List V} {fr : List Addr} : OwnRep K H N t a → VL K H N σ ρ l vs fr → VL K H N σ ρ (⟨t, .f⟩ :: l) (.ref a :: vs) (a :: fr)
  | pk {t : T} {i : Nat} {v : V} {l : List TK} {vs : List V} {fr : List Addr} : σ[i]? = some (some v) → slotAt ρ i ≠ .no → VL K H N σ ρ l vs fr → VL K H N σ ρ (⟨t, .p i⟩ :: l) (v :: vs) fr
def uni (W : Addr → Prop) (fr : List Addr) : Addr → Prop := fun b => W b ∨ b ∈ fr
theorem uni_mono {fr : List Addr} (hw : ∀ b, W b → W1 b) : ∀ b, uni W fr b → uni W1 fr b := fun b q => q.imp (hw b) id
theorem VL.weak {l : List TK} {vs : List V} {fr : List Addr} (hn : ∀ b, N' b → N b) (h : VL K H N σ ρ l vs fr) : VL K H N' σ ρ l vs fr := by
  induction h with
  | nil => exact .nil
  | sh r _ ih => exact .sh (r.weak hn) ih
  | fr r _ ih => exact .fr (r.weak hn) ih
  | pk a b _ ih => exact .pk a b ih
structure VPs (K : PySem.W.Frag) (TB : List (Addr × Str)) (Nw : Addr → Prop) (H' : Hp) (W : Addr → Prop) (O' : OA) (σ : L2.St) (ρ' : Env) (l : List TK) (vs : List V) (fr : List Addr) : Prop where
  nd : fr.Nodup
  new : ∀ a ∈ fr, Nw a
  ng : ∀ a ∈ fr, ¬ NG W O' a
  env : EnvRep K TB H' (uni W fr) O' σ ρ'
  vl : VL K H' (NG (uni W fr) O') σ ρ' l vs fr
def kdL (K : PySem.W.Frag) (TB : List (Addr × Str)) (σ : L2.St) : Kd K σ (List TK) (List V) where
  VP := fun Nw W x H' O' ρ' v => ∃ fr, VPs K TB Nw H' W O' σ ρ' x v fr
  shift := by
    intro Nw Nw1 W W1 x H' O' ρ' b p hw ⟨fr, h⟩
    exact ⟨fr, h.nd, fun a m => p _ (h.new a m), fun a m q => h.ng a m (ng_mono hw _ q), h.env.drop (uni_mono hw), h.vl.weak (ng_mono (uni_mono hw))⟩
/-! ### readings -/
def tR {α β : Type} (TB : List (Addr × Str)) (C : CT) (Wx : WX) (k : Kd K σ α β) (r : Env → R α) (H : Hp) (Q : β → Hp → Prop) : Prop :=
  ∃ W O ρ, EnvRep K TB H W O σ ρ ∧ Go TB C Wx k H W O ρ (r ρ) Q
def tE (K : PySem.W.Frag) (TB : List (Addr × Str)) (C : CT) (Wx : WX) (r : Env → R TK) : TE := fun σ H Q => tR TB C Wx (kdV K TB σ) r H Q
def tT (K : PySem.W.Frag) (TB : List (Addr × Str)) (C : CT) (Wx : WX) (r : Env → R Bool) : TT := fun σ H Q => tR TB C Wx (kdP K TB σ Bool) r H Q
def tO (K : PySem.W.Frag) (TB : List (Addr × Str)) (C : CT) (Wx : WX) (r : Env → R (Option Int)) : TO := fun σ H Q => tR TB C Wx (kdP K TB σ (Option Int)) r H Q
def tA (K : PySem.W.Frag) (TB : List (Addr × Str)) (C : CT) (Wx : WX) (r : Env → R (List TK)) : TA := fun σ H Q => tR TB C Wx (kdL K TB σ) r H Q
theorem _root_.L2.PE.mono {X : Cx} {e : Expr} {t t' : TE} (h : PE X e t) (m : ∀ σ H Q, t' σ H Q → t σ H Q) : PE X e t' := ⟨fun pins s σ H Q I q => h.run pins s σ H Q I (m σ H Q q)⟩
theorem _root_.L2.PT.mono {X : Cx} {e : Expr} {t t' : TT} (h : PT X e t) (m : ∀ σ H Q, t' σ H Q → t σ H Q) : PT X e t' := ⟨fun pins s σ H Q I q => h.run pins s σ H Q I (m σ H Q q)⟩
theorem _root_.L2.PW.mono {X : Cx} {e : Expr} {t t' : TT} (h : PW X e t) (m : ∀ σ H Q, t' σ H Q → t σ H Q) : PW X e t' := ⟨fun wh pins s σ H Q I q => h.run wh pins s σ H Q I (m σ H Q q)⟩
theorem _root_.L2.PO.mono {X : Cx} {e : Option Expr} {t t' : TO} (h : PO X e t) (m : ∀ σ H Q, t' σ H Q → t σ H Q) : PO X e t' := ⟨fun pins s σ H Q I q => h.run pins s σ H Q I (m σ H Q q)⟩
theorem _root_.L2.PA.mono {X : Cx} {e : List Expr} {t t' : TA} (h : PA X e t) (m : ∀ σ H Q, t' σ H Q → t σ H Q) : PA X e t' := ⟨fun pos pins s σ H Q I q => h.run pos pins s σ H Q I (m σ H Q q)⟩
theorem _root_.L2.PS.mono {X : Cx} {e : Stmt} {t t' : TS} (h : PS X e t) (m : ∀ D σ H, t' D σ H → t D σ H) : PS X e t' := ⟨fun pins s σ H D I q => h.run pins s σ H D I (m D σ H q)⟩
theorem _root_.L2.PSs.mono {X : Cx} {e : List Stmt} {t t' : TS} (h : PSs X e t) (m : ∀ D σ H, t' D σ H → t D σ H) : PSs X e t' := ⟨fun pins s σ H D I q => h.run pins s σ H D I (m D σ H q)⟩
theorem un_lst {t : T} {l : List T} (h : un t = .lst l) : t = .lst l := by cases t <;> first | exact h | cases h
/-! ### what is held is read later -/
theorem treeOf_read {i : Nat} {v : V} (e : EnvRep K TB H W O σ ρ) (hv : σ[i]? = some (some v)) (hn : slotAt ρ i ≠ .no) : RRep K H (NG W O) (un (treeOf (slotAt ρ i))) v := by
  refine RRep.un ?_
  have q := e.sl i
  revert q hn
  cases slotAt ρ i <;> intro hn q
  · exact absurd rfl hn
  · obtain ⟨_, x, e1, r⟩ := q; rw [hv] at e1; cases e1; exact .inl r
  · obtain ⟨a, _, e1, r⟩ := q; rw [hv] at e1; cases e1; exact RRep.own r
  · obtain ⟨a, _, e1, r⟩ := q; rw [hv] at e1; cases e1; exact RRep.own r
  · obtain ⟨_, x, e1, r⟩ := q; rw [hv] at e1; cases e1; exact .inl r
/-- the barred places while a value is held -/
def heldW (W : Addr → Prop) (x : TK) (v : V) : Addr → Prop := match x.k, v with
  | .f, .ref a => plus W a
  | _, _ => W
theorem heldW_le {x : TK} {v : V} : ∀ b, W b → heldW W x v b := by
  intro b q
  obtain ⟨t, k⟩ := x
  cases k <;> first
    | exact q
    | (cases v <;> first
        | exact q
        | exact .inl q)
theorem VPost.envH {Nw : Addr → Prop} {x : TK} {v : V} (h : VPost K TB Nw H' W O' σ ρ' x v) : EnvRep K TB H' (heldW W x v) O' σ ρ' := by
  obtain ⟨t, kk⟩ := x
  cases kk with
  | s => exact h.2
  | f => obtain ⟨a, rfl, _, _, _, e⟩ := h; exact e
  | p i => exact h.2.2
theorem VPost.read {Nw : Addr → Prop} {x : TK} {v : V} (h : VPost K TB Nw H' W O' σ ρ' x v) : RRep K H' (NG (heldW W x v) O') (val ρ' x) v := by
  obtain ⟨t, kk⟩ := x
  cases kk with
  | s => exact (RRep.of h.1).un
  | f => obtain ⟨a, rfl, _, _, r, e⟩ := h; exact (RRep.own r).un
  | p i => exact treeOf_read h.2.2 h.1 h.2.1
/-- a tuple is never what an own slot holds -/
theorem ow_mut {b : Addr} {o : HO} (e : EnvRep K TB H W O σ ρ) (hb : Ow O ρ b) (ho : H b = some o) : (∃ vs, o = .lst vs) ∨ (∃ ks, o = .dK ks) ∨ ∃ ks, o = .dT ks := by
  obtain ⟨i, bb, t, e1, e2⟩ := hb
  have q := e.sl i
  rw [e2] at q
  obtain ⟨a, e3, _, r⟩ := q
  rw [e1] at e3; cases e3
  rcases r with ⟨ts, vs, _, h, _⟩ | ⟨ts, vs, _, h, _⟩ | ⟨ts, vs, _, h, _⟩
  · rw [ho] at h; cases h; exact .inl ⟨_, rfl⟩
  · rw [ho] at h; cases h; exact .inr (.inl ⟨_, rfl⟩)
  · rw [ho] at h; cases h; exact .inr (.inr ⟨_, rfl⟩)
theorem Post.tups (p : Post H O ρ H1 O1 ρ1) (e : EnvRep K TB H W O σ ρ) : ∀ b o, H b = some o → (∃ xs, o = .tup xs ∨ ∃ ob, o = .frz ob (.tup xs)) → H1 b = some o := fun b o eb h => p.keep b o eb (fun q => by
  rcases ow_mut e q eb with ⟨vs, rfl⟩ | ⟨ks, rfl⟩ | ⟨ks, rfl⟩
  · obtain ⟨xs, h | ⟨ob, h⟩⟩ := h <;> cases h
  · obtain ⟨xs, h | ⟨ob, h⟩⟩ := h <;> cases h
  · obtain ⟨xs, h | ⟨ob, h⟩⟩ := h <;> cases h) (fun ps z => by
  subst z
  obtain ⟨xs, h | ⟨ob, h⟩⟩ := h <;> cases h)
theorem ow_ng {b : Addr} (h : Ow O ρ b) : NG W O b := by
  obtain ⟨i, _, _, e, _⟩ := h
  exact .inr ⟨i, e⟩
theorem ng_own (p : Post H O ρ H1 O1 ρ1) : ∀ b, NG W O1 b → NG W O b := fun b q => q.imp id fun ⟨i, e⟩ => ⟨i, p.own i b e⟩
theorem Rep.post {t : T} {v : V} (p : Post H O ρ H1 O1 ρ1) (e : EnvRep K TB H W O σ ρ) (r : Rep K H (NG W O) t v) : Rep K H1 (NG W O1) t v :=
  r.keep (fun b o eb n z => p.keep b o eb (fun q => n (ow_ng q)) z) (p.tups e) (fun b q => .inl (ng_own p b q))
theorem Reps.post {t : List T} {v : List V} (p : Post H O ρ H1 O1 ρ1) (e : EnvRep K TB H W O σ ρ) (r : Reps K H (NG W O) t v) : Reps K H1 (NG W O1) t v :=
  r.keep (fun b o eb n z => p.keep b o eb (fun q => n (ow_ng q)) z) (p.tups e) (fun b q => .inl (ng_own p b q))
theorem RepKV.post {t : List (T × T)} {v : List (Key × V)} (p : Post H O ρ H1 O1 ρ1) (e : EnvRep K TB H W O σ ρ) (r : RepKV K H (NG W O) t v) : RepKV K H1 (NG W O1) t v :=
  r.keep (fun b o eb n z => p.keep b o eb (fun q => n (ow_ng q)) z) (p.tups e) (fun b q => .inl (ng_own p b q))
theorem OwnRep.post {t : T} {a : Addr} (p : Post H O ρ H1 O1 ρ1) (e : EnvRep K TB H W O σ ρ) (na : ¬ Ow O ρ a) (r : OwnRep K H (NG W O) t a) : OwnRep K H1 (NG W O1) t a := by
  rcases r with ⟨ts, vs, e1, h, r⟩ | ⟨ts, vs, e1, h, r⟩ | ⟨ts, vs, e1, h, r⟩
  · exact .inl ⟨ts, vs, e1, p.keep _ _ h na (fun _ z => by cases z), r.post p e⟩
  · exact .inr (.inl ⟨ts, vs, e1, p.keep _ _ h na (fun _ z => by cases z), r.post p e⟩)
  · exact .inr (.inr ⟨ts, vs, e1, p.keep _ _ h na (fun _ z => by cases z), r⟩)
/-- a value held from (H, ρ) on is read at (H1, ρ1) -/
theorem VPost.later {Nw : Addr → Prop} {x : TK} {v : V} (h : VPost K TB Nw H W O σ ρ x v) (p : Post H O ρ H1 O1 ρ1) (e1 : EnvRep K TB H1 (heldW W x v) O1 σ ρ1) : RRep K H1 (NG (heldW W x v) O1) (val ρ1 x) v := by
  obtain ⟨t, kk⟩ := x
  cases kk with
  | s => exact (RRep.of (h.1.post p h.2)).un
  | f =>
    obtain ⟨a, rfl, n, ng, r, e⟩ := h
    exact (RRep.own (r.post p e fun q => ng (ow_ng q))).un
  | p i => exact treeOf_read e1 h.1 (p.ne i h.2.1)
/-! ### results by values -/
/-- what an operation by values hands back -/
def Res (K : PySem.W.Frag) (H : Hp) (N : Addr → Prop) (x : TK) (Q : VK) : Prop := match x.k with
  | .s => ∀ v H', Grow H H' → Rep K H' N x.t v → Q v H'
  | .f => ∀ a H', Grow H H' → H a = none → OwnRep K H' (plus N a) x.t a → Q (.ref a) H'
  | .p _ => True
theorem Go.res {x : TK} {Q : VK} (e : EnvRep K TB H W O σ ρ) (g : Go TB C Wx (kdV K TB σ) H W O ρ (.ok x ρ) Q) : Res K H (NG W O) x Q := by
  obtain ⟨t, kk⟩ := x
  cases kk with
  | s => exact fun v H' gr r => g v H' O (Post.grow gr) ⟨r, e.grow gr⟩
  | f => exact fun a H' gr na r => g (.ref a) H' O (Post.grow gr) ⟨a, rfl, .inl (nn.of na), e.free na, r.weak ng_plus, by
      obtain ⟨o, ho, hz⟩ := r.thereN
      exact e.new gr na ho hz⟩
  | p i => exact trivial
/-- a result that is the value of one of the operands' own trees -/
theorem Go.resB {b : Bool} (e : EnvRep K TB H W O σ ρ) {Q : VK} (g : Go TB C Wx (kdV K TB σ) H W O ρ (.ok ⟨.bl b, .s⟩ ρ) Q) : Q (.bl b) H :=
  g (.bl b) H O Post.refl ⟨.bl b, e⟩
end
end PB
end

section
set_option Elab.async false
set_option linter.all false
set_option maxRecDepth 100000
set_option maxHeartbeats 4000000
/-! Sound3: operations by values. -/
namespace PB
open PySem PySem.Spec PyProof.Rows L2
section
variable {K : PySem.W.Frag} {H H' : Hp} {N : Addr → Prop}
theorem sizeMax_eq : sizeMax = sizeLine := by decide
theorem sized_le {α : Type} {l : List α} (h : sized l = true) : l.length < sizeLine := by
  unfold sized at h
  rw [sizeMax_eq] at h
  exact Nat.blt_eq.mp h
theorem iLt_eq (i j : Int) : iLt i j = decide (i < j) := by
  rw [Bool.eq_iff_iff, decide_eq_true_iff]
  cases i <;> cases j <;> simp only [iLt, Int.ofNat_eq_natCast, Nat.blt_eq, Bool.false_eq_true, iff_false, iff_true, false_iff, true_iff] <;> omega
theorem iEq_eq (i j : Int) : iEq i j = decide (i = j) := by
  rw [Bool.eq_iff_iff, decide_eq_true_iff]
  cases i <;> cases j <;> simp only [iEq, Int.ofNat_eq_natCast, Nat.beq_eq, Bool.false_eq_true, iff_false, iff_true, false_iff, true_iff] <;> omega
theorem iLe_eq (i j : Int) : iLe i j = decide (i ≤ j) := by
  unfold iLe
  rw [iLt_eq, Bool.eq_iff_iff]
  simp
theorem Reps.length {ts : List T} {vs : List V} (h : Reps K H N ts vs) : ts.length = vs.length := by
  induction ts generalizing vs with
  | nil => cases h; rfl
  | cons t ts ih =>
    cases h with
    | cons a b => simp [ih b]
theorem Reps.append {ts us : List T} {vs ws : List V} (h : Reps K H N ts vs) (g : Reps K H N us ws) : Reps K H N (ts ++ us) (vs ++ ws) := by
  induction ts generalizing vs with
  | nil => cases h; exact g
  | cons t ts ih =>
    cases h with
    | cons a b => exact .cons a (ih b)
theorem Reps.get {ts : List T} {vs : List V} (h : Reps K H N ts vs) : ∀ {i : Nat} {t : T}, ts[i]? = some t → ∃ v, vs[i]? = some v ∧ Rep K H N t v := by
  induction ts generalizing vs with
  | nil => intro i t e; simp at e
  | cons x ts ih =>
    intro i t e
    cases h with
    | cons a b =>
      cases i with
      | zero => simp at e; subst e; exact ⟨_, rfl, a⟩
      | succ i => exact ih b (by simpa using e)
theorem Reps.drop {ts : List T} {vs : List V} (n : Nat) (h : Reps K H N ts vs) : Reps K H N (ts.drop n) (vs.drop n) := by
  induction n generalizing ts vs with
  | zero => exact h
  | succ n ih =>
    cases h with
    | nil => exact .nil
    | cons a b => exact ih b
theorem Reps.take {ts : List T} {vs : List V} (n : Nat) (h : Reps K H N ts vs) : Reps K H N (ts.take n) (vs.take n) := by
  induction n generalizing ts vs with
  | zero => exact .nil
  | succ n ih =>
    cases h with
    | nil => exact .nil
    | cons a b => exact .cons a (ih b)
theorem Reps.reverse {ts : List T} {vs : List V} (h : Reps K H N ts vs) : Reps K H N ts.reverse vs.reverse := by
  induction ts generalizing vs with
  | nil => cases h; exact .nil
  | cons t ts ih =>
    cases h with
    | cons a b =>
      rw [List.reverse_cons, List.reverse_cons]
      exact (ih b).append (.cons a .nil)
theorem Reps.rep {ts : List T} {vs : List V} (h : Reps K H N ts vs) : ∀ k : Nat, Reps K H N (List.replicate k ts).flatten (List.replicate k vs).flatten
  | 0 => .nil
  | k + 1 => by
    rw [List.replicate_succ, List.replicate_succ, List.flatten_cons, List.flatten_cons]
    exact h.append (h.rep k)
/-- the parts of what is read -/
theorem RRep.int {i : Int} {v : V} (h : RRep K H N (.int i) v) : v = .int i := by
  rcases h with h | ⟨_, _, _, _, e, _⟩ | ⟨_, _, _, _, e, _⟩ | ⟨_, _, _, _, e, _⟩
  · cases h; rfl
  · cases e
  · cases e
  · cases e
theorem RRep.bl {i : Bool} {v : V} (h : RRep K H N (.bl i) v) : v = .bl i := by
  rcases h with h | ⟨_, _, _, _, e, _⟩ | ⟨_, _, _, _, e, _⟩ | ⟨_, _, _, _, e, _⟩
  · cases h; rfl
  · cases e
  · cases e
  · cases e
theorem RRep.non {v : V} (h : RRep K H N .non v) : v = .non := by
  rcases h with h | ⟨_, _, _, _, e, _⟩ | ⟨_, _, _, _, e, _⟩ | ⟨_, _, _, _, e, _⟩
  · cases h; rfl
  · cases e
  · cases e
  · cases e
theorem RRep.str {s : List Nat} {v : V} (h : RRep K H N (.str s) v) : v = .str (toStr s) := by
  rcases h with h | ⟨_, _, _, _, e, _⟩ | ⟨_, _, _, _, e, _⟩ | ⟨_, _, _, _, e, _⟩
  · cases h; rfl
  · cases e
  · cases e
  · cases e
theorem RRep.tup {ts : List T} {v : V} (h : RRep K H N (.tup ts) v) : ∃ a vs, v = .ref a ∧ SqT K H a vs ∧ Reps K H N ts vs := by
  rcases h with h | ⟨_, _, _, _, e, _⟩ | ⟨_, _, _, _, e, _⟩ | ⟨_, _, _, _, e, _⟩
  · cases h with
    | tup a b => exact ⟨_, _, rfl, a, b⟩
  · cases e
  · cases e
  · cases e
theorem RRep.lst {ts : List T} {v : V} (h : RRep K H N (.lst ts) v) : ∃ a vs, v = .ref a ∧ H a = some (.lst vs) ∧ Reps K H N ts vs := by
  rcases h with h | ⟨a, ts', vs, e, e', hr, r⟩ | ⟨_, _, _, _, e, _⟩ | ⟨_, _, _, _, e, _⟩
  · cases h with
    | lst a n b => exact ⟨_, _, rfl, a, b⟩
  · cases e'; exact ⟨a, vs, e, hr, r⟩
  · cases e
  · cases e
theorem RRep.scr {ns : List Int} {v : V} (h : RRep K H N (.scr ns) v) : ∃ a, v = .ref a ∧ SqL K H a (ns.map V.int) := by
  rcases h with h | ⟨_, _, _, _, e, _⟩ | ⟨_, _, _, _, e, _⟩ | ⟨_, _, _, _, e, _⟩
  · cases h with
    | scrH a b => exact ⟨_, rfl, .inl (.inr ⟨_, a⟩)⟩
    | scrK a => exact ⟨_, rfl, a H⟩
  · cases e
  · cases e
  · cases e
theorem RRep.dct {ts : List (T × T)} {v : V} (h : RRep K H N (.dct ts) v) : ∃ a ks, v = .ref a ∧ H a = some (.dK ks) ∧ RepKV K H N ts ks := by
  rcases h with h | ⟨_, _, _, _, e, _⟩ | ⟨a, ts', vs, e, e', hr, r⟩ | ⟨_, _, _, _, e, _⟩
  · cases h with
    | dct a n b => exact ⟨_, _, rfl, a, b⟩
  · cases e
  · cases e'; exact ⟨a, vs, e, hr, r⟩
  · cases e
theorem RRep.dtt {ks : List T} {v : V} (h : RRep K H N (.dtt ks) v) : ∃ a kvs, v = .ref a ∧ H a = some (.dT kvs) ∧ TKs ks kvs := by
  rcases h with h | ⟨_, _, _, _, e, _⟩ | ⟨_, _, _, _, e, _⟩ | ⟨a, ks', kvs, e, e', hr, r⟩
  · cases h with
    | dtt a n b => exact ⟨_, _, rfl, a, b⟩
  · cases e
  · cases e
  · cases e'; exact ⟨a, kvs, e, hr, r⟩
/-- results -/
theorem Res.sh {t : T} {Q : VK} (h : Res K H N ⟨t, .s⟩ Q) {v : V} (r : Rep K H N t v) : Q v H := h v H Grow.refl r
theorem Res.fin {t : T} {Q : VK} (h : Res K H N ⟨t, .s⟩ Q) {v : V} {H' : Hp} (g : Grow H H') (r : Rep K H' N t v) : Q v H' := h v H' g r
theorem Res.newL {ts : List T} {vs : List V} {Q : VK} (h : Res K H N ⟨.lst ts, .f⟩ Q) (r : Reps K H N ts vs) : ∀ p, H p = none → Q (.ref p) (upd H p (.lst vs)) :=
  fun p hp => h p _ (Grow.upd hp) hp (.inl ⟨ts, vs, rfl, upd_same, r.new (Grow.upd hp) hp⟩)
theorem Res.newD {ts : List (T × T)} {vs : List (Key × V)} {Q : VK} (h : Res K H N ⟨.dct ts, .f⟩ Q) (r : RepKV K H N ts vs) : ∀ p, H p = none → Q (.ref p) (upd H p (.dK vs)) :=
  fun p hp => h p _ (Grow.upd hp) hp (.inr (.inl ⟨ts, vs, rfl, upd_same, r.new (Grow.upd hp) hp⟩))
theorem Res.newT {ts : List T} {vs : List V} {Q : VK} (h : Res K H N ⟨.tup ts, .s⟩ Q) (r : Reps K H N ts vs) : ∀ p, H p = none → Q (.ref p) (upd H p (.tup vs)) :=
  fun p hp => h _ _ (Grow.upd hp) (.tup (SqT.of upd_same) (r.grow (Grow.upd hp)))
end
theorem SqL.rd {K : PySem.W.Frag} {H : Hp} {a : Addr} {vs : List V} (h : Rd H a (.lst vs)) : SqL K H a vs := .inl h
def rOp (K : PySem.W.Frag) (f : T → T → Option TK) : R2 := fun x y H Q => ∃ N t u r, RRep K H N t x ∧ RRep K H N u y ∧ f t u = some r ∧ Res K H N r Q
section
variable {X : Cx}
theorem toStr_append (a b : List Nat) : toStr a ++ toStr b = toStr (a ++ b) := by
  show Str.mk _ = Str.mk _
  congr 1
  simp [toStr]
theorem cond_some {α : Type} {b : Bool} {x : Option α} {y : α} (h : cond b x none = some y) : b = true ∧ x = some y := by
  cases b with
  | true => exact ⟨rfl, h⟩
  | false => cases h
theorem ok_add : OpR X (binaryOp .Add) (rOp X.K addT) := by
  intro pins s σ H x y v u Q I rx ry h
  obtain ⟨N, t, u', r, hx, hy, e, q⟩ := h
  unfold addT at e
  split at e
  · cases e
    rw [hx.int] at rx
    rw [hy.int] at ry
    exact op_add pins s σ H _ _ v u Q I rx ry ⟨_, _, rfl, rfl, q.sh (.int _)⟩
  · cases e
    rw [hx.int] at rx
    rw [hy.bl] at ry
    refine op_add_ib pins s σ H _ _ v u Q I rx ry ⟨_, _, rfl, rfl, ?_⟩
    rename_i i b
    cases b <;> exact q.sh (.int _)
  · obtain ⟨c, e⟩ := cond_some e
    cases e
    obtain ⟨a, vs, e1, ha, ra⟩ := hx.lst
    obtain ⟨b, ws, e2, hb, rb⟩ := hy.lst
    rw [e1] at rx
    rw [e2] at ry
    have hl := sized_le c
    rw [List.length_append, ra.length, rb.length] at hl
    exact op_cat pins s σ H _ _ v u Q I rx ry ⟨_, _, _, _, rfl, rfl, ha, hb, Nat.le_of_lt hl, q.newL (ra.append rb)⟩
  · obtain ⟨c, e⟩ := cond_some e
    cases e
    obtain ⟨a, vs, e1, ha, ra⟩ := hx.tup
    obtain ⟨b, ws, e2, hb, rb⟩ := hy.tup
    rw [e1] at rx
    rw [e2] at ry
    have hl := sized_le c
    rw [List.length_append, ra.length, rb.length] at hl
    refine op_catA pins s σ H _ _ v u Q I rx ry ⟨_, _, _, _, rfl, rfl, ha, hb, Nat.le_of_lt hl, fun e => ?_, fun e1 e => ?_, fun _ _ => q.newT (ra.append rb)⟩
    · subst e
      cases ra
      exact q.sh (.tup hb rb)
    · subst e
      cases rb
      rw [List.append_nil] at q
      exact q.sh (.tup ha ra)
  · obtain ⟨c, e⟩ := cond_some e
    cases e
    rw [hx.str] at rx
    rw [hy.str] at ry
    have hl := sized_le c
    rw [List.length_append] at hl
    refine op_add_str pins s σ H _ _ v u Q I rx ry ⟨_, _, rfl, rfl, by rw [toStr_length, toStr_length]; omega, ?_⟩
    rw [toStr_append]
    exact q.sh (.str _)
  · cases e
theorem ok_sub : OpR X (binaryOp .Sub) (rOp X.K subT) := by
  intro pins s σ H x y v u Q I rx ry h
  obtain ⟨N, t, u', r, hx, hy, e, q⟩ := h
  unfold subT at e
  split at e
  · cases e
    rw [hx.int] at rx
    rw [hy.int] at ry
    exact op_sub pins s σ H _ _ v u Q I rx ry ⟨_, _, rfl, rfl, q.sh (.int _)⟩
  · cases e
theorem and_t {a b : Bool} (h : (a && b) = true) : a = true ∧ b = true := Bool.and_eq_true_iff.mp h
theorem lt_of {i j : Int} (h : iLt i j = true) : i < j := by rw [iLt_eq] at h; exact of_decide_eq_true h
theorem le_of {i j : Int} (h : iLe i j = true) : i ≤ j := by rw [iLe_eq] at h; exact of_decide_eq_true h
theorem ok_mul : OpR X (binaryOp .Mult) (rOp X.K mulT) := by
  intro pins s σ H x y v u Q I rx ry h
  obtain ⟨N, t, u', r, hx, hy, e, q⟩ := h
  unfold mulT at e
  split at e
  · obtain ⟨c, e⟩ := cond_some e
    cases e
    rw [hx.int] at rx
    rw [hy.int] at ry
    exact op_mulW pins s σ H _ _ v u Q I rx ry ⟨_, _, rfl, rfl, Nat.blt_eq.mp c, q.sh (.int _)⟩
  · obtain ⟨c, e⟩ := cond_some e
    obtain ⟨c2, e⟩ := cond_some e
    cases e
    obtain ⟨a, vs, e1, ha, ra⟩ := hx.lst
    rw [e1] at rx
    rw [hy.int] at ry
    rename_i a0 j _
    obtain ⟨c0, c1⟩ := and_t c
    have c0 := le_of c0
    have c1 := lt_of c1
    have hl := sized_le c2
    have hk := (ra.rep j.toNat).length
    rw [hk, PyProof.Rows.lm_len_rep_flat, Nat.mul_comm] at hl
    exact op_rep pins s σ H _ _ v u Q I rx ry ⟨_, _, _, rfl, rfl, ha, by omega, by omega, Nat.le_of_lt hl, q.newL (ra.rep _)⟩
  · cases e
theorem ok_fdiv : OpR X (binaryOp .FloorDiv) (rOp X.K fdivT) := by
  intro pins s σ H x y v u Q I rx ry h
  obtain ⟨N, t, u', r, hx, hy, e, q⟩ := h
  unfold fdivT at e
  split at e
  · obtain ⟨c, e⟩ := cond_some e
    cases e
    rw [hx.int] at rx
    rw [hy.int] at ry
    rename_i i j
    have c' : CDivW i j := by
      unfold divOk at c
      cases h0 : iLt 0 j with
      | true => rw [h0] at c; exact ⟨lt_of h0, Nat.blt_eq.mp c⟩
      | false => rw [h0] at c; cases c
    exact op_fdivW pins s σ H _ _ v u Q I rx ry ⟨_, _, rfl, rfl, c', q.sh (.int _)⟩
  · cases e
theorem ok_mod : OpR X (binaryOp .Mod) (rOp X.K modT) := by
  intro pins s σ H x y v u Q I rx ry h
  obtain ⟨N, t, u', r, hx, hy, e, q⟩ := h
  unfold modT at e
  split at e
  · obtain ⟨c, e⟩ := cond_some e
    cases e
    rw [hx.int] at rx
    rw [hy.int] at ry
    exact op_mod pins s σ H _ _ v u Q I rx ry ⟨_, _, rfl, rfl, lt_of c, q.sh (.int _)⟩
  · cases e
theorem op_powW : OpR X (binaryOp .Pow) (rI (fun i j => 0 ≤ j ∧ (Builtin.Int.intBits i : Int) * j ≤ 2 ^ 27) fun i j => .int (i ^ j.toNat)) := opI fun _ _ _ _ _ _ _ hc q => pow_int hc.1 hc.2 q
theorem ok_pow : OpR X (binaryOp .Pow) (rOp X.K powT) := by
  intro pins s σ H x y v u Q I rx ry h
  obtain ⟨N, t, u', r, hx, hy, e, q⟩ := h
  unfold powT at e
  split at e
  · obtain ⟨c, e⟩ := cond_some e
    cases e
    rw [hx.int] at rx
    rw [hy.int] at ry
    rename_i i j
    obtain ⟨c, c3⟩ := and_t c
    obtain ⟨c1, c2⟩ := and_t c
    have c1 := le_of c1
    have c2 := lt_of c2
    have c3 := Nat.blt_eq.mp c3
    refine op_powW pins s σ H _ _ v u Q I rx ry ⟨_, _, rfl, rfl, ⟨c1, ?_⟩, q.sh (.int _)⟩
    have hb : Builtin.Int.intBits i ≤ 1000 := by
      unfold Builtin.Int.intBits
      split <;> omega
    have : (Builtin.Int.intBits i : Int) * j ≤ 1000 * 100000 := by
      refine Int.le_trans (Int.mul_le_mul_of_nonneg_right (c := j) (Int.ofNat_le.mpr hb) c1) ?_
      exact Int.mul_le_mul_of_nonneg_left (Int.le_of_lt c2) (by decide)
    omega
  · cases e
def opOf : O2 → Operator
  | .add => .Add
  | .sub => .Sub
  | .mul => .Mult
  | .fdiv => .FloorDiv
  | .mod => .Mod
  | .pow => .Pow
  | .band => .BitAnd
  | .bor => .BitOr
  | .bxor => .BitXor
theorem ok_op (o : O2) : OpR X (binaryOp (opOf o)) (rOp X.K (op2 o)) := by
  cases o
  · exact ok_add
  · exact ok_sub
  · exact ok_mul
  · exact ok_fdiv
  · exact ok_mod
  · exact ok_pow
  all_goals
    intro pins s σ H x y v u Q I rx ry h
    obtain ⟨N, t, u', r, hx, hy, e, q⟩ := h
    cases e
end
/-! ### comparisons -/
mutual
def toD : T → PyData
  | .non => .none
  | .bl b => .bool b
  | .int i => .int i
  | .str s => .str (toStr s)
  | .tup xs => .tuple (toDs xs)
  | .lst xs => .list (toDs xs)
  | .dct _ => .dict []
  | .scr _ => .dict []
  | .dtt _ => .dict []
  | .tpd xs => .tuple (toDs xs)
def toDs : List T → List PyData
  | [] => []
  | x :: r => toD x :: toDs r
end
theorem allT_cons {p : T → Bool} {x : T} {r : List T} (h : allT p (x :: r) = true) : p x = true ∧ allT p r = true := by
  unfold allT at h
  cases e : p x with
  | true => rw [e] at h; exact ⟨rfl, h⟩
  | false => rw [e] at h; cases h
theorem signs_cons {x : Nat} {r : List Nat} (h : signs (x :: r) = true) : x < 128 ∧ signs r = true := by
  unfold signs at h
  cases e : Nat.blt x 128 with
  | true => rw [e] at h; exact ⟨Nat.blt_eq.mp e, h⟩
  | false => rw [e] at h; cases h
theorem strOk_of : ∀ {s : List Nat}, signs s = true → PyData.strOk (toStr s) = true := by
  intro s h
  have all : ∀ x ∈ s, x < 0x110000 := by
    induction s with
    | nil => simp
    | cons y r ih =>
      obtain ⟨h1, h2⟩ := signs_cons h
      intro x hx
      rcases List.mem_cons.mp hx with rfl | hx
      · omega
      · exact ih h2 x hx
  simp [PyData.strOk, toStr]
  exact all
section
variable {K : PySem.W.Frag} {H : Hp} {N : Addr → Prop}
mutual
theorem Rep.dp : ∀ (n : Nat) (t : T) (v : V), Rep K H N t v → T.dataN n t = true → Dp K H v (toD t)
  | _, _, _, .non, _ => .non
  | _, _, _, .bl b, _ => .bl b
  | _, _, _, .int i, _ => .int i
  | _, _, _, .str s, _ => .str _
  | 0, _, _, .tup h r, d => nomatch d
  | n + 1, _, _, .tup h r, d => .tup h (Reps.dp n _ _ r d)
  | 0, _, _, .tpd h _ r, d => nomatch d
  | n + 1, _, _, .tpd h _ r, d => .tup (.inl (.inr ⟨_, h⟩)) (Reps.dp n _ _ r d)
  | 0, _, _, .lst h n r, d => nomatch d
  | n + 1, _, _, .lst h _ r, d => .lst (SqL.of h) (Reps.dp n _ _ r d)
  | 0, _, _, .dct h n r, d => nomatch d
  | _ + 1, _, _, .dct h n r, d => nomatch d
  | 0, _, _, .scrH h n, d => nomatch d
  | _ + 1, _, _, .scrH h n, d => nomatch d
  | 0, _, _, .scrK h, d => nomatch d
  | _ + 1, _, _, .scrK h, d => nomatch d
  | 0, _, _, .dtt _ _ _, d => nomatch d
  | _ + 1, _, _, .dtt _ _ _, d => nomatch d
theorem Reps.dp : ∀ (n : Nat) (t : List T) (v : List V), Reps K H N t v → allT (T.dataN n) t = true → DpAll K H v (toDs t)
  | _, _, _, .nil, _ => .nil
  | n, _, _, .cons h r, d => .cons (Rep.dp n _ _ h (allT_cons d).1) (Reps.dp n _ _ r (allT_cons d).2)
end
theorem RRep.dp {n : Nat} {t : T} {v : V} (h : RRep K H N t v) (d : T.dataN n t = true) : Dp K H v (toD t) := by
  rcases h with h | ⟨a, ts, vs, rfl, rfl, h, r⟩ | ⟨a, ts, vs, rfl, rfl, h, r⟩ | ⟨a, ts, vs, rfl, rfl, h, r⟩
  · exact h.dp n t v d
  · cases n with
    | zero => cases d
    | succ n => exact .lst (SqL.of h) (r.dp n _ _ d)
  · cases n <;> cases d
  · cases n <;> cases d
end
mutual
theorem lay_of : ∀ (n : Nat) (t : T), T.dataN n t = true → (toD t).canLay0 = true ∧ (toD t).depth ≤ n
  | n, .non, _ => ⟨rfl, Nat.zero_le _⟩
  | n, .bl _, _ => ⟨rfl, Nat.zero_le _⟩
  | n, .int _, _ => ⟨rfl, Nat.zero_le _⟩
  | n, .str s, d => ⟨by
      have e : signs s = true := by cases n <;> exact d
      exact strOk_of e, Nat.zero_le _⟩
  | 0, .tup _, d => nomatch d
  | n + 1, .tup xs, d => by
    obtain ⟨a, b⟩ := lays_of n xs d
    exact ⟨a, Nat.succ_le_succ b⟩
  | 0, .tpd _, d => nomatch d
  | n + 1, .tpd xs, d => by
    obtain ⟨a, b⟩ := lays_of n xs d
    exact ⟨a, Nat.succ_le_succ b⟩
  | 0, .lst _, d => nomatch d
  | n + 1, .lst xs, d => by
    obtain ⟨a, b⟩ := lays_of n xs d
    exact ⟨a, Nat.succ_le_succ b⟩
  | 0, .dct _, d => nomatch d
  | 0, .scr _, d => nomatch d
  | 0, .dtt _, d => nomatch d
  | _ + 1, .dtt _, d => nomatch d
  | _ + 1, .dct _, d => nomatch d
  | _ + 1, .scr _, d => nomatch d
theorem lays_of : ∀ (n : Nat) (t : List T), allT (T.dataN n) t = true → PyData.canLayAll0 (toDs t) = true ∧ PyData.depthAll (toDs t) ≤ n
  | n, [], _ => ⟨rfl, Nat.zero_le _⟩
  | n, x :: r, d => by
    obtain ⟨d1, d2⟩ := allT_cons d
    obtain ⟨a, b⟩ := lay_of n x d1
    obtain ⟨a', b'⟩ := lays_of n r d2
    exact ⟨by
      show ((toD x).canLay0 && PyData.canLayAll0 (toDs r)) = true
      rw [a, a']; rfl, by
      show max (toD x).depth (PyData.depthAll (toDs r)) ≤ n
      exact Nat.max_le.mpr ⟨b, b'⟩⟩
end
theorem shaped_of {n : Nat} {t : T} (hn : n ≤ 64) (d : T.dataN n t = true) : SeqAt.shaped (toD t) = true := by
  obtain ⟨a, b⟩ := lay_of n t d
  show ((toD t).canLay0 && decide ((toD t).depth ≤ 64)) = true
  rw [a, decide_eq_true (Nat.le_trans b hn)]
  rfl
theorem cond_false {b c : Bool} : cond b c false = (b && c) := by cases b <;> rfl
theorem strEq_eq : ∀ (a b : List Nat), strEq a b = (toStr a == toStr b) := by
  intro a b
  rw [Bool.eq_iff_iff, beq_iff_eq]
  constructor
  · intro h
    have : a = b := by
      induction a generalizing b with
      | nil => cases b with
        | nil => rfl
        | cons y r => cases h
      | cons x r ih =>
        cases b with
        | nil => cases h
        | cons y q =>
          unfold strEq at h
          rw [cond_false] at h
          obtain ⟨h1, h2⟩ := and_t h
          rw [Nat.eq_of_beq_eq_true h1, ih q h2]
    rw [this]
  · intro h
    have e := toStr_inj h
    subst e
    clear h
    induction a with
    | nil => rfl
    | cons x r ih =>
      unfold strEq
      rw [cond_false, ih, Nat.beq_refl]
      rfl
theorem iEq_beq (i j : Int) : iEq i j = (i == j) := by
  rw [iEq_eq, Bool.eq_iff_iff]
  simp
theorem b2i_if (b : Bool) : PB.b2i b = if b = true then 1 else 0 := by cases b <;> rfl
mutual
theorem eqv_toD : ∀ (x y : T), x.eqv y = PyData.eqv (toD x) (toD y)
  | .non, y => by cases y <;> rfl
  | .bl a, y => by
    cases y with
    | int j =>
      show iEq (b2i a) j = _
      rw [iEq_beq, b2i_if]; rfl
    | _ => rfl
  | .int a, y => by
    cases y with
    | int j => exact iEq_beq a j
    | bl b =>
      show iEq a (b2i b) = _
      rw [iEq_beq, b2i_if]; rfl
    | _ => rfl
  | .str a, y => by
    cases y with
    | str b => exact strEq_eq a b
    | _ => rfl
  | .tup a, y => by
    cases y with
    | tup b => exact eqvs_toD a b
    | tpd b => exact eqvs_toD a b
    | _ => rfl
  | .tpd a, y => by
    cases y with
    | tup b => exact eqvs_toD a b
    | tpd b => exact eqvs_toD a b
    | _ => rfl
  | .lst a, y => by
    cases y with
    | lst b => exact eqvs_toD a b
    | _ => rfl
  | .dct a, y => by cases y <;> rfl
  | .scr a, y => by cases y <;> rfl
  | .dtt a, y => by cases y <;> rfl
theorem eqvs_toD : ∀ (x y : List T), T.eqvs x y = PyData.eqvAll (toDs x) (toDs y)
  | [], [] => rfl
  | [], _ :: _ => rfl
  | _ :: _, [] => rfl
  | x :: xs, y :: ys => by
    show cond (x.eqv y) (T.eqvs xs ys) false = (PyData.eqv (toD x) (toD y) && PyData.eqvAll (toDs xs) (toDs ys))
    rw [cond_false, eqv_toD x y, eqvs_toD xs ys]
end
def rCmp (K : PySem.W.Frag) (f : T → T → Option Bool) : R2 := fun x y H Q => ∃ N t u b, RRep K H N t x ∧ RRep K H N u y ∧ f t u = some b ∧ Q (.bl b) H
theorem cond_2 {α : Type} {b c : Bool} {x : α} {y : α} (h : cond b (cond c (some x) none) none = some y) : b = true ∧ c = true ∧ x = y := by
  obtain ⟨h1, h⟩ := cond_some h
  obtain ⟨h2, h⟩ := cond_some h
  exact ⟨h1, h2, Option.some.inj h⟩
section
variable {X : Cx}
theorem eqC_ok {K : PySem.W.Frag} {H : Hp} {N : Addr → Prop} {t u : T} {x y : V} {b : Bool} (hx : RRep K H N t x) (hy : RRep K H N u y) (e : eqC t u = some b) :
    ∃ d d', Dp K H x d ∧ Dp K H y d' ∧ SeqAt.shaped d = true ∧ SeqAt.shaped d' = true ∧ PyData.eqv d d' = b := by
  unfold eqC at e
  split at e
  · cases e
    rw [hx.int, hy.int]
    exact ⟨_, _, .int _, .int _, rfl, rfl, (iEq_beq _ _).symm⟩
  · obtain ⟨h1, h2, e⟩ := cond_2 e
    exact ⟨_, _, hx.dp h1, hy.dp h2, shaped_of (by decide) h1, shaped_of (by decide) h2, by rw [← eqv_toD]; exact e⟩
theorem ok_eq (hu : X.A.units + 64 < cLine) : OpR X (compareOp .Eq) (rCmp X.K eqC) := by
  intro pins s σ H x y v u Q I rx ry h
  obtain ⟨N, t, u', b, hx, hy, e, q⟩ := h
  obtain ⟨d, d', h1, h2, h3, h4, h5⟩ := eqC_ok hx hy e
  exact op_eqD hu pins s σ H x y v u Q I rx ry ⟨d, d', h1, h2, h3, h4, by rw [h5]; exact q⟩
theorem notO_some {o : Option Bool} {b : Bool} (h : notO o = some b) : o = some (!b) := by
  cases o with
  | none => cases h
  | some c => cases h; simp
theorem ok_ne (hu : X.A.units + 64 < cLine) : OpR X (compareOp .NotEq) (rCmp X.K fun x y => notO (eqC x y)) := by
  intro pins s σ H x y v u Q I rx ry h
  obtain ⟨N, t, u', b, hx, hy, e, q⟩ := h
  obtain ⟨d, d', h1, h2, h3, h4, h5⟩ := eqC_ok hx hy (notO_some e)
  exact op_neD hu pins s σ H x y v u Q I rx ry ⟨d, d', h1, h2, h3, h4, by rw [h5]; simpa using q⟩
theorem memb_any : ∀ (x : T) (l : List T), memb x l = (toDs l).any fun z => PyData.eqv z (toD x)
  | x, [] => rfl
  | x, y :: r => by
    show cond (y.eqv x) true (memb x r) = (PyData.eqv (toD y) (toD x) || (toDs r).any fun z => PyData.eqv z (toD x))
    rw [← eqv_toD, ← memb_any x r]
    cases y.eqv x <;> rfl
theorem room_in' {t : T} {l : List T} (d : T.dataN 20 t = true) (hu : X.A.units + 65 < cLine) : X.A.units + 1 + min (PyData.depthAll (toDs l)) (toD t).depth < cLine := by
  obtain ⟨_, h⟩ := lay_of 20 t d
  have : min (PyData.depthAll (toDs l)) (toD t).depth ≤ (toD t).depth := Nat.min_le_right _ _
  omega
end
end PB
end

section
set_option Elab.async false
set_option linter.all false
set_option maxRecDepth 100000
set_option maxHeartbeats 4000000
/-! Sound4: comparisons, subscripts, truth, by values. -/
namespace PB
open PySem PySem.Spec PyProof.Rows L2
/-! ### dicts with int and text keys -/
theorem keyOf_kV {K : PySem.W.Frag} {H : Hp} {N : Addr → Prop} {t : T} {v : V} {c : Key} (h : keyOf t = some c) (r : RRep K H N t v) : v = kV c := by
  cases t with
  | int i => cases h; rw [r.int]; rfl
  | str s => cases h; rw [r.str]; rfl
  | _ => cases h
theorem keyOf_eqv {a b : T} {c d : Key} (ha : keyOf a = some c) (hb : keyOf b = some d) : a.eqv b = decide (c = d) := by
  cases a with
  | int i =>
    cases b with
    | int j =>
      cases ha; cases hb
      show iEq i j = _
      rw [iEq_beq, key_ll]
    | str s => cases ha; cases hb; exact (key_lr _ _).symm
    | _ => cases hb
  | str s =>
    cases b with
    | int j => cases ha; cases hb; exact (key_rl _ _).symm
    | str s' =>
      cases ha; cases hb
      show strEq s s' = _
      rw [strEq_eq, key_rr, Bool.beq_eq_decide_eq]
    | _ => cases hb
  | _ => cases ha
section
variable {K : PySem.W.Frag} {H : Hp} {N : Addr → Prop}
theorem RepKV.get {kvs : List (T × T)} {ks : List (Key × V)} (h : RepKV K H N kvs ks) {k : T} {c : Key} (hk : keyOf k = some c) :
    (dGet k kvs = none ∧ valV ks c = none) ∨ ∃ t v, dGet k kvs = some t ∧ valV ks c = some v ∧ Rep K H N t v := by
  induction kvs generalizing ks with
  | nil => cases h; exact .inl ⟨rfl, rfl⟩
  | cons p r ih =>
    cases h with
    | @cons a t d v _ ks' ha hr hq =>
      have e := keyOf_eqv ha hk
      by_cases q : d = c
      · subst q
        rw [decide_eq_true rfl] at e
        refine .inr ⟨t, v, ?_, valV_pos rfl, hr⟩
        show cond (a.eqv k) (some t) (dGet k r) = some t
        rw [e]; rfl
      · rw [decide_eq_false q] at e
        have e1 : dGet k ((a, t) :: r) = dGet k r := by
          show cond (a.eqv k) (some t) (dGet k r) = _
          rw [e]; rfl
        rw [e1, valV_neg (p := (d, v)) q]
        exact ih hq
theorem RepKV.len {kvs : List (T × T)} {ks : List (Key × V)} (h : RepKV K H N kvs ks) : kvs.length = ks.length := by
  induction kvs generalizing ks with
  | nil => cases h; rfl
  | cons p r ih =>
    cases h with
    | cons a b c => simp [ih c]
theorem putK_cons {c d : Key} {v w : V} {r : List (Key × V)} (nd : d = c → valV r c = none ∨ True) : putK ((d, v) :: r) c w = if d = c then (d, w) :: r.map (fun kv => if kv.1 = c then (kv.1, w) else kv) else (d, v) :: putK r c w := by
  unfold putK
  by_cases q : d = c
  · simp [q]
  · rw [if_neg q]
    have e : ((d, v) :: r).any (fun kv => decide (kv.1 = c)) = r.any fun kv => decide (kv.1 = c) := by simp [q]
    rw [e]
    by_cases z : (r.any fun kv => decide (kv.1 = c)) = true
    · rw [if_pos z, if_pos z, List.map_cons, if_neg q]
    · rw [if_neg z, if_neg z]; rfl
theorem valV_out {c : Key} : ∀ {r : List (Key × V)}, c ∉ r.map (·.1) → valV r c = none
  | [], _ => rfl
  | p :: r, h => by
    rw [List.map_cons, List.mem_cons, not_or] at h
    rw [valV_neg (p := p) fun e => h.1 e.symm]
    exact valV_out h.2
theorem map_same {c : Key} {w : V} : ∀ {r : List (Key × V)}, valV r c = none → r.map (fun kv => if kv.1 = c then (kv.1, w) else kv) = r
  | [], _ => rfl
  | p :: r, h => by
    by_cases q : p.1 = c
    · rw [valV_pos q] at h; cases h
    · rw [valV_neg q] at h
      rw [List.map_cons, if_neg q, map_same h]
theorem RepKV.put {kvs : List (T × T)} {ks : List (Key × V)} (h : RepKV K H N kvs ks) {k t : T} {c : Key} {v : V} (hk : keyOf k = some c) (hr : Rep K H N t v) (nd : (ks.map (·.1)).Nodup) :
    RepKV K H N (dPut k t kvs) (putK ks c v) := by
  induction kvs generalizing ks with
  | nil => cases h; exact .cons hk hr .nil
  | cons p r ih =>
    cases h with
    | @cons a t' d v' _ ks' ha hr' hq =>
      have e := keyOf_eqv ha hk
      rw [putK_cons fun _ => .inr trivial]
      by_cases q : d = c
      · subst q
        rw [decide_eq_true rfl] at e
        rw [List.map_cons, List.nodup_cons] at nd
        rw [if_pos rfl, map_same (valV_out nd.1)]
        show RepKV K H N (cond (a.eqv k) ((a, t) :: r) ((a, t') :: dPut k t r)) _
        rw [e]
        exact .cons ha hr hq
      · rw [decide_eq_false q] at e
        rw [if_neg q]
        show RepKV K H N (cond (a.eqv k) ((a, t) :: r) ((a, t') :: dPut k t r)) _
        rw [e]
        rw [List.map_cons, List.nodup_cons] at nd
        exact .cons ha hr' (ih hq nd.2)
theorem dk_nd {X : Cx} {pins : List (Addr × Obj)} {σ : L2.St} {s : Shared} {a : Addr} {ks : List (Key × V)} {H : Hp} (I : L2.Inv X pins σ H s) (h : Rd H a (.dK ks)) : (ks.map (·.1)).Nodup := by
  obtain ⟨_, _, vs, rel, d⟩ := dk_rd I.hok h
  obtain ⟨o, es, ep, _, _, _, _, _, nd⟩ := d
  rw [rel.keys]
  exact nd
end
end PB
end

section
set_option Elab.async false
set_option linter.all false
set_option maxRecDepth 100000
set_option maxHeartbeats 4000000
/-! Sound5: more comparisons, subscripts, truth, by values. -/
namespace PB
open PySem PySem.Spec PyProof.Rows L2
section
variable {X : Cx}
/-! ### in -/
theorem dget_of {K : PySem.W.Frag} {H : Hp} {N : Addr → Prop} {kvs : List (T × T)} {a : Addr} {ks : List (Key × V)} {k : T} {v : V} {c : Key} (h : Rd H a (.dK ks)) (hk : keyOf k = some c) (rv : RRep K H N k v) : DGet H a v (valV ks c) :=
  .inl ⟨ks, c, h, keyOf_kV hk rv, rfl⟩
theorem flat_key {k : T} (h : k.isFlat = true) : ∃ c, keyOf k = some c := by
  cases k with
  | int i => exact ⟨_, rfl⟩
  | str s => exact ⟨_, rfl⟩
  | _ => cases h
/-- a key that is let to a dict of int and text keys -/
theorem kindOk_key {K : PySem.W.Frag} {H : Hp} {N : Addr → Prop} {k : T} {kvs : List (T × T)} {ks : List (Key × V)} (r : RepKV K H N kvs ks) (h : kindOk k kvs = true) : ∃ c, keyOf k = some c := by
  cases kvs with
  | nil => exact flat_key h
  | cons p q =>
    cases r with
    | @cons a t c v _ _ ha _ _ =>
      have e : a.isTup = false := by cases a <;> first | rfl | cases ha
      unfold kindOk at h
      simp only [e, cond_false'] at h
      exact flat_key h
where cond_false' : ∀ {α : Type} {a b : α}, cond false a b = b := fun {_ _ _} => rfl
theorem isSome_eq {α : Type} (o : Option α) : isSome o = o.isSome := by cases o <;> rfl
theorem valV_get {K : PySem.W.Frag} {H : Hp} {N : Addr → Prop} {kvs : List (T × T)} {ks : List (Key × V)} (r : RepKV K H N kvs ks) {k : T} {c : Key} (hk : keyOf k = some c) : (valV ks c).isSome = isSome (dGet k kvs) := by
  rcases r.get hk with ⟨e1, e2⟩ | ⟨t, v, e1, e2, _⟩
  · rw [e1, e2]; rfl
  · rw [e1, e2]; rfl
theorem in_data (hu : X.A.units + 65 < cLine) (neg : Bool) {pins : List (Addr × Obj)} {s : Shared} {σ : L2.St} {H : Hp} {x y : V} {v u : Value} {Q : VK} (I : L2.Inv X pins σ H s) (rx : L2.RelV x v) (ry : L2.RelV y u) {N : Addr → Prop} {t : T} {l : List T} {w : T}
    (hw : w = .lst l ∨ w = .tup l) (hx : RRep X.K H N t x) (hy : RRep X.K H N w y) (d1 : t.data = true) (d2 : T.datas l = true) (q : Q (.bl (if neg then !memb t l else memb t l)) H) :
    wpAny (model X.prog X.w) X.A (compareOp (if neg then .NotIn else .In) v u) (EP X pins σ Q) X.xe s := by
  obtain ⟨as, r1⟩ := Dp.reads I _ x v (hx.dp d1) rx
  have hs := shaped_of (n := 20) (by decide) d1
  obtain ⟨hl, _⟩ := lays_of 20 l d2
  have hr := room_in' (l := l) d1 hu
  have hc := (lay_of 20 t d1).1
  rw [memb_any] at q
  rcases hw with rfl | rfl
  · have d3 : T.dataN 21 (.lst l) = true := d2
    obtain ⟨bs, r2⟩ := Dp.reads I _ y u (hy.dp d3) ry
    cases neg
    · exact SeqAt.in_list_reads r2 r1 hl hc hr ⟨.bl _, H, I, rfl, q⟩
    · exact SeqAt.notIn_list_reads r2 r1 hl hc hr ⟨.bl _, H, I, rfl, q⟩
  · have d3 : T.dataN 21 (.tup l) = true := d2
    obtain ⟨bs, r2⟩ := Dp.reads I _ y u (hy.dp d3) ry
    cases neg
    · exact SeqAt.in_tuple_reads r2 r1 hl hc hr ⟨.bl _, H, I, rfl, q⟩
    · exact SeqAt.notIn_tuple_reads r2 r1 hl hc hr ⟨.bl _, H, I, rfl, q⟩
theorem inC_ok (hu : X.A.units + 65 < cLine) (neg : Bool) {pins : List (Addr × Obj)} {s : Shared} {σ : L2.St} {H : Hp} {x y : V} {v u : Value} {Q : VK} (I : L2.Inv X pins σ H s) (rx : L2.RelV x v) (ry : L2.RelV y u) {N : Addr → Prop} {t w : T} {b : Bool}
    (hx : RRep X.K H N t x) (hy : RRep X.K H N w y) (e : inC t w = some b) (q : Q (.bl (if neg then !b else b)) H) :
    wpAny (model X.prog X.w) X.A (compareOp (if neg then .NotIn else .In) v u) (EP X pins σ Q) X.xe s := by
  unfold inC at e
  split at e
  · obtain ⟨h1, h2, e⟩ := cond_2 e
    subst e
    exact in_data hu neg I rx ry (.inl rfl) hx hy h1 h2 q
  · obtain ⟨h1, h2, e⟩ := cond_2 e
    subst e
    exact in_data hu neg I rx ry (.inr rfl) hx hy h1 h2 q
  · obtain ⟨h1, e⟩ := cond_some e
    cases e
    rename_i kvs
    obtain ⟨a, ks, rfl, hd, r⟩ := hy.dct
    cases ry
    obtain ⟨c, hk⟩ := kindOk_key r h1
    have g := dget_of (kvs := kvs) (.inl hd) hk hx
    rw [← valV_get r hk] at q
    cases neg
    · exact d_in (by omega) I g rx fun s' I' => ⟨.bl _, H, I', rfl, q⟩
    · exact d_notIn (by omega) I g rx fun s' I' => ⟨.bl _, H, I', rfl, q⟩
  · cases e
theorem ok_in (hu : X.A.units + 65 < cLine) : OpR X (compareOp .In) (rCmp X.K inC) := by
  intro pins s σ H x y v u Q I rx ry h
  obtain ⟨N, t, u', b, hx, hy, e, q⟩ := h
  exact inC_ok hu false I rx ry hx hy e q
theorem ok_notin (hu : X.A.units + 65 < cLine) : OpR X (compareOp .NotIn) (rCmp X.K fun x y => notO (inC x y)) := by
  intro pins s σ H x y v u Q I rx ry h
  obtain ⟨N, t, u', b, hx, hy, e, q⟩ := h
  refine inC_ok hu true I rx ry hx hy (notO_some e) ?_
  simpa using q
/-! ### is -/
theorem RRep.notnon {K : PySem.W.Frag} {H : Hp} {N : Addr → Prop} {t : T} {v : V} (h : RRep K H N t v) (n : t ≠ .non) : v ≠ .non := by
  rcases h with h | ⟨a, ts, vs, rfl, rfl, _⟩ | ⟨a, ts, vs, rfl, rfl, _⟩ | ⟨a, ts, vs, rfl, rfl, _⟩
  · cases h <;> first
      | exact absurd rfl n
      | (intro e; cases e)
  · intro e; cases e
  · intro e; cases e
  · intro e; cases e
theorem isC_ok {pins : List (Addr × Obj)} {s : Shared} {σ : L2.St} {H : Hp} {x y : V} {v u : Value} {Q : VK} (neg : Bool) (I : L2.Inv X pins σ H s) (rx : L2.RelV x v) (ry : L2.RelV y u) {N : Addr → Prop} {t w : T} {b : Bool}
    (hx : RRep X.K H N t x) (hy : RRep X.K H N w y) (e : isC t w = some b) (q : Q (.bl (if neg then !b else b)) H) :
    wpAny (model X.prog X.w) X.A (compareOp (if neg then .IsNot else .Is) v u) (EP X pins σ Q) X.xe s := by
  unfold isC at e
  split at e
  · cases e
    have e1 := hx.non
    have e2 := hy.non
    subst e1 e2
    cases neg
    · exact op_isN pins s σ H _ _ v u Q I rx ry ⟨rfl, q⟩
    · exact op_notN pins s σ H _ _ v u Q I rx ry ⟨rfl, q⟩
  · cases e
    have e2 := hy.non
    subst e2
    rename_i hn
    have n : x ≠ .non := hx.notnon fun z => hn z
    cases neg
    · exact op_isN pins s σ H _ _ v u Q I rx ry ⟨rfl, by rw [decide_eq_false n]; exact q⟩
    · exact op_notN pins s σ H _ _ v u Q I rx ry ⟨rfl, by rw [decide_eq_false n]; exact q⟩
  · cases e
    have e1 := hx.bl
    have e2 := hy.bl
    subst e1 e2
    rename_i p r
    have z : (p == r) = decide (p = r) := Bool.beq_eq_decide_eq p r
    rw [z] at q
    cases neg
    · exact op_is_bl pins s σ H _ _ v u Q I rx ry ⟨_, _, rfl, rfl, q⟩
    · exact op_isnot_bl pins s σ H _ _ v u Q I rx ry ⟨_, _, rfl, rfl, q⟩
  · cases e
theorem ok_is : OpR X (compareOp .Is) (rCmp X.K isC) := by
  intro pins s σ H x y v u Q I rx ry h
  obtain ⟨N, t, u', b, hx, hy, e, q⟩ := h
  exact isC_ok false I rx ry hx hy e q
theorem ok_isnot : OpR X (compareOp .IsNot) (rCmp X.K fun x y => notO (isC x y)) := by
  intro pins s σ H x y v u Q I rx ry h
  obtain ⟨N, t, u', b, hx, hy, e, q⟩ := h
  refine isC_ok true I rx ry hx hy (notO_some e) ?_
  simpa using q
/-! ### order -/
theorem strLt_lt : ∀ (a b : List Nat), strLt a b = decide (a < b)
  | [], [] => by simp [strLt]
  | [], y :: b => by simp [strLt]
  | x :: a, [] => by simp [strLt]
  | x :: a, y :: b => by
    show cond (Nat.beq x y) (strLt a b) (Nat.blt x y) = _
    rw [strLt_lt a b, Bool.eq_iff_iff, decide_eq_true_iff, List.cons_lt_cons_iff]
    by_cases q : x = y
    · subst q
      rw [Nat.beq_refl]
      simp
    · have e : Nat.beq x y = false := by
        cases z : Nat.beq x y with
        | false => rfl
        | true => exact absurd (Nat.eq_of_beq_eq_true z) q
      rw [e]
      simp [Nat.blt_eq, q]
theorem cond_none {α : Type} {b : Bool} {x : Option α} {y : α} (h : cond b x none = some y) : b = true ∧ x = some y := cond_some h
theorem lexAt_shift {e r : Nat → Bool} {z : Bool} : ∀ (k i : Nat), Ob.lexAt e r z (i + 1) k = Ob.lexAt (fun j => e (j + 1)) (fun j => r (j + 1)) z i k
  | 0, _ => rfl
  | k + 1, i => by
    rw [Ob.lexAt_succ, Ob.lexAt_succ, lexAt_shift k (i + 1)]
def c0 {α : Type} (a : α) (f : Nat → α) : Nat → α
  | 0 => a
  | j + 1 => f j
theorem dataN_lt {n : Nat} {t : T} {A : Around} (d : T.dataN n t = true) (hu : A.units + n + 65 < cLine) (d' : PyData) : A.units + min (toD t).depth d'.depth < cLine := by
  obtain ⟨_, h⟩ := lay_of n t d
  have : min (toD t).depth d'.depth ≤ (toD t).depth := Nat.min_le_left _ _
  omega
/-- the items' answers -/
def LtItems (A : Around) (s : Shared) (its its2 : List Value) (b : Bool) : Prop :=
  ∃ e r : Nat → Bool, (∀ j (h1 : j < its.length) (h2 : j < its2.length), SeqAt.EqAt A s its[j] its2[j] (e j)) ∧ (∀ j (h1 : j < its.length) (h2 : j < its2.length), e j = false → Ob.RcOp .Lt A s its[j] its2[j] (r j)) ∧
    Ob.lexAt e r (decide (its.length < its2.length)) 0 (min its.length its2.length) = b
theorem lts_items {A : Around} {s : Shared} {pins : List (Addr × Obj)} {σ : L2.St} {H : Hp} (I : L2.Inv X pins σ H s) {N : Addr → Prop} {n : Nat} (hu : A.units + n + 65 < cLine)
    (ih : ∀ (t u : T) (x y : V) (v w : Value) (b : Bool), T.dataN n t = true → T.dataN n u = true → Rep X.K H N t x → Rep X.K H N u y → L2.RelV x v → L2.RelV y w → t.lt? u = some b → Ob.RcOp .Lt A s v w b) :
    ∀ (ts us : List T) (xs ys : List V) (its its2 : List Value) (b : Bool), ((allT (T.dataN n) ts = true ∧ allT (T.dataN n) us = true) ∨ n = 20) → Reps X.K H N ts xs → Reps X.K H N us ys → L2.Vals xs its → L2.Vals ys its2 → T.lts? ts us = some b → LtItems A s its its2 b
  | [], [], _, _, _, _, b, _, .nil, .nil, .nil, .nil, e => by
    cases e
    exact ⟨fun _ => true, fun _ => true, fun j h1 => absurd h1 (Nat.not_lt_zero _), fun j h1 => absurd h1 (Nat.not_lt_zero _), rfl⟩
  | [], _ :: _, _, _, _, _, b, _, .nil, .cons _ _, .nil, .cons _ _, e => by
    cases e
    refine ⟨fun _ => true, fun _ => true, fun j h1 => absurd h1 (Nat.not_lt_zero _), fun j h1 => absurd h1 (Nat.not_lt_zero _), ?_⟩
    rw [List.length_nil, Nat.zero_min]
    exact decide_eq_true (Nat.zero_lt_succ _)
  | _ :: _, [], _, _, _, _, b, _, .cons _ _, .nil, .cons _ _, .nil, e => by
    cases e
    refine ⟨fun _ => true, fun _ => true, fun j _ h1 => absurd h1 (Nat.not_lt_zero _), fun j _ h1 => absurd h1 (Nat.not_lt_zero _), ?_⟩
    rw [List.length_nil, Nat.min_zero]
    exact decide_eq_false (Nat.not_lt_zero _)
  | t :: ts, u :: us, x :: xs, y :: ys, v :: its, w :: its2, b, hp, .cons rt rts, .cons ru rus, .cons rv rvs, .cons rw_ rws, e => by
    have e1 : cond (t.data && u.data) (cond (t.eqv u) (T.lts? ts us) (cond (isSome (T.lts? ts us)) (t.lt? u) none)) none = some b := e
    obtain ⟨e0, e1⟩ := cond_some e1
    obtain ⟨dd1, dd2⟩ := and_t e0
    obtain ⟨dt1, du1, hp'⟩ : T.dataN n t = true ∧ T.dataN n u = true ∧ ((allT (T.dataN n) ts = true ∧ allT (T.dataN n) us = true) ∨ n = 20) := by
      rcases hp with ⟨h1, h2⟩ | h
      · exact ⟨(allT_cons h1).1, (allT_cons h2).1, .inl ⟨(allT_cons h1).2, (allT_cons h2).2⟩⟩
      · subst h
        exact ⟨dd1, dd2, .inr rfl⟩
    obtain ⟨as, r1⟩ := Dp.reads I _ x v (Rep.dp n t x rt dt1) rv
    obtain ⟨bs, r2⟩ := Dp.reads I _ y w (Rep.dp n u y ru du1) rw_
    have q := SeqAt.eqAt_reads (toD t) (toD u) A s v w as bs r1 r2 (lay_of n t dt1).1 (lay_of n u du1).1 (dataN_lt dt1 hu _)
    rw [← eqv_toD] at q
    cases eq : t.eqv u with
    | true =>
      rw [eq] at e1 q
      obtain ⟨e', r', h1, h2, h3⟩ := lts_items I hu ih ts us xs ys its its2 b hp' rts rus rvs rws e1
      refine ⟨c0 true e', c0 true r', fun j g1 g2 => ?_, fun j g1 g2 z => ?_, ?_⟩
      · cases j with
        | zero => exact q
        | succ j => exact h1 j (Nat.lt_of_succ_lt_succ g1) (Nat.lt_of_succ_lt_succ g2)
      · cases j with
        | zero => cases z
        | succ j => exact h2 j (Nat.lt_of_succ_lt_succ g1) (Nat.lt_of_succ_lt_succ g2) z
      · rw [List.length_cons, List.length_cons, Nat.succ_min_succ, Ob.lexAt_succ, lexAt_shift]
        simp only [Nat.add_lt_add_iff_right]
        exact h3
    | false =>
      rw [eq] at e1 q
      have e1 : cond (isSome (T.lts? ts us)) (t.lt? u) none = some b := e1
      obtain ⟨e2, e3⟩ := cond_some e1
      cases e4 : T.lts? ts us with
      | none => rw [e4] at e2; cases e2
      | some b' =>
        obtain ⟨e', r', h1, h2, h3⟩ := lts_items I hu ih ts us xs ys its its2 b' hp' rts rus rvs rws e4
        refine ⟨c0 false e', c0 b r', fun j g1 g2 => ?_, fun j g1 g2 z => ?_, ?_⟩
        · cases j with
          | zero => exact q
          | succ j => exact h1 j (Nat.lt_of_succ_lt_succ g1) (Nat.lt_of_succ_lt_succ g2)
        · cases j with
          | zero => exact ih t u x y v w b dt1 du1 rt ru rv rw_ e3
          | succ j => exact h2 j (Nat.lt_of_succ_lt_succ g1) (Nat.lt_of_succ_lt_succ g2) z
        · rw [List.length_cons, List.length_cons, Nat.succ_min_succ, Ob.lexAt_succ]
          rfl
theorem un_ne (t : T) (l : List T) : un t ≠ .tpd l := by cases t <;> nofun
theorem lt_un (t u : T) : t.lt? u = (un t).lt? (un u) := by cases t <;> cases u <;> rfl
theorem dataN_un (n : Nat) (t : T) : T.dataN n t = T.dataN n (un t) := by cases t <;> cases n <;> rfl
theorem isTup_un {t : T} (h : t.isTup = true) : ∃ ts, un t = .tup ts := by
  cases t with
  | tup l => exact ⟨l, rfl⟩
  | tpd l => exact ⟨l, rfl⟩
  | _ => cases h
theorem Rep.unR {K : PySem.W.Frag} {H : Hp} {N : Addr → Prop} {t : T} {v : V} (h : Rep K H N t v) : Rep K H N (un t) v := by
  cases h with
  | tpd h d r => exact .tup (.inl (.inr ⟨_, h⟩)) r
  | non => exact .non
  | bl b => exact .bl b
  | int i => exact .int i
  | str s => exact .str s
  | tup h r => exact .tup h r
  | lst h n r => exact .lst h n r
  | dct h n r => exact .dct h n r
  | dtt h n r => exact .dtt h n r
  | scrH h n => exact .scrH h n
  | scrK h => exact .scrK h
theorem lt_flat {A : Around} {s : Shared} {H : Hp} {N : Addr → Prop} {t u : T} {x y : V} {v w : Value} {b : Bool} (rt : RRep X.K H N t x) (ru : RRep X.K H N u y) (rv : L2.RelV x v) (rw_ : L2.RelV y w) (e : t.lt? u = some b) (hn : t.isTup = false) :
    Ob.RcOp .Lt A s v w b := by
  cases t with
  | int i =>
    cases u with
    | int j =>
      cases e
      rw [rt.int] at rv
      rw [ru.int] at rw_
      obtain ⟨t1, rfl⟩ := rv
      obtain ⟨t2, rfl⟩ := rw_
      rw [iLt_eq]
      exact Ob.RcOp.lt_int _ _ _ _
    | _ => cases e
  | str i =>
    cases u with
    | str j =>
      cases e
      rw [rt.str] at rv
      rw [ru.str] at rw_
      obtain ⟨t1, rfl⟩ := rv
      obtain ⟨t2, rfl⟩ := rw_
      rw [strLt_lt]
      intro prog ww E Q h
      refine PyProof.Rows.lt_str ?_
      have z : decide ((toStr i).cps.toList < (toStr j).cps.toList) = decide (i < j) := decide_eq_decide.mpr (by simp [toStr])
      rw [z]
      exact h
    | _ => cases e
  | tup _ => cases hn
  | tpd _ => cases hn
  | _ => cases u <;> cases e
theorem lt_run {s : Shared} {pins : List (Addr × Obj)} {σ : L2.St} {H : Hp} (I : L2.Inv X pins σ H s) {N : Addr → Prop} :
    ∀ (n : Nat) (A : Around), A.units + n + 65 < cLine → ∀ (t u : T) (x y : V) (v w : Value) (b : Bool), T.dataN n t = true → T.dataN n u = true → Rep X.K H N t x → Rep X.K H N u y → L2.RelV x v → L2.RelV y w → t.lt? u = some b → Ob.RcOp .Lt A s v w b
  | 0, A, hu, t, u, x, y, v, w, b, dt, du, rt, ru, rv, rw_, e => by
    cases ht : t.isTup with
    | false => exact lt_flat (.of rt) (.of ru) rv rw_ e ht
    | true =>
      cases t with
      | tup ts => exact nomatch (show false = true from dt)
      | tpd ts => exact nomatch (show false = true from dt)
      | _ => cases ht
  | n + 1, A, hu, t, u, x, y, v, w, b, dt, du, rt, ru, rv, rw_, e => by
    cases ht : t.isTup with
    | false => exact lt_flat (.of rt) (.of ru) rv rw_ e ht
    | true =>
      rw [lt_un] at e
      rw [dataN_un] at dt du
      have rt := rt.unR
      have ru := ru.unR
      obtain ⟨ts, et⟩ := isTup_un ht
      rw [et] at e dt rt
      cases eu : un u with
      | tup us =>
          rw [eu] at e du ru
          cases rt with
          | tup h1 q1 =>
            cases ru with
            | tup h2 q2 =>
              cases rv
              cases rw_
              obtain ⟨its, r1, p1, _⟩ := I.tuple h1
              obtain ⟨its2, r2, p2, _⟩ := I.tuple h2
              obtain ⟨e', r', g1, g2, g3⟩ := lts_items (A := A.in1) I (by rw [PySem.Around.in1_units]; omega) (lt_run I n A.in1 (by rw [PySem.Around.in1_units]; omega)) ts us _ _ its its2 b (.inl ⟨dt, du⟩) q1 q2 r1 r2 e
              have R := Ob.RcOp.tuples_lt (A := A) (s := s) (e := e') (r := r') p1 p2 (by omega) (fun j h1 h2 => by simpa using g1 j (by simpa using h1) (by simpa using h2)) (fun j h1 h2 z => by simpa using g2 j (by simpa using h1) (by simpa using h2) z)
              simp only [List.size_toArray] at R
              rw [g3] at R
              exact R
      | tpd us => exact absurd eu (un_ne _ _)
      | _ => rw [eu] at e; cases e
theorem lt_top {s : Shared} {pins : List (Addr × Obj)} {σ : L2.St} {H : Hp} (I : L2.Inv X pins σ H s) {N : Addr → Prop} {A : Around} (hu : A.units + 90 < cLine) {t u : T} {x y : V} {v w : Value} {b : Bool}
    (rt : RRep X.K H N t x) (ru : RRep X.K H N u y) (rv : L2.RelV x v) (rw_ : L2.RelV y w) (e : t.lt? u = some b) : Ob.RcOp .Lt A s v w b := by
  cases ht : t.isTup with
  | false => exact lt_flat rt ru rv rw_ e ht
  | true =>
    rw [lt_un] at e
    have rt := rt.un
    have ru := ru.un
    obtain ⟨ts, et⟩ := isTup_un ht
    rw [et] at e rt
    cases eu : un u with
    | tup us =>
        rw [eu] at e ru
        obtain ⟨a1, xs, e1, h1, q1⟩ := rt.tup
        obtain ⟨a2, ys, e2, h2, q2⟩ := ru.tup
        subst e1 e2
        cases rv
        cases rw_
        obtain ⟨its, r1, p1, _⟩ := I.tuple h1
        obtain ⟨its2, r2, p2, _⟩ := I.tuple h2
        obtain ⟨e', r', g1, g2, g3⟩ := lts_items (n := 20) (A := A.in1) I (by rw [PySem.Around.in1_units]; omega) (lt_run I 20 A.in1 (by rw [PySem.Around.in1_units]; omega)) ts us _ _ its its2 b (.inr rfl) q1 q2 r1 r2 e
        have R := Ob.RcOp.tuples_lt (A := A) (s := s) (e := e') (r := r') p1 p2 (by omega) (fun j h1 h2 => by simpa using g1 j (by simpa using h1) (by simpa using h2)) (fun j h1 h2 z => by simpa using g2 j (by simpa using h1) (by simpa using h2) z)
        simp only [List.size_toArray] at R
        rw [g3] at R
        exact R
    | tpd us => exact absurd eu (un_ne _ _)
    | _ => rw [eu] at e; cases e
theorem ok_lt (hu : X.A.units + 90 < cLine) : OpR X (compareOp .Lt) (rCmp X.K T.lt?) := by
  intro pins s σ H x y v u Q I rx ry h
  obtain ⟨N, t, u', b, hx, hy, e, q⟩ := h
  exact lt_top I hu hx hy rx ry e X.prog X.w X.xe (EP X pins σ Q) ⟨.bl b, H, I, rfl, q⟩
theorem ok_gt : OpR X (compareOp .Gt) (rCmp X.K gtC) := by
  intro pins s σ H x y v u Q I rx ry h
  obtain ⟨N, t, u', b, hx, hy, e, q⟩ := h
  unfold gtC at e
  split at e
  · cases e
    rw [hx.int] at rx
    rw [hy.int] at ry
    rw [iLt_eq] at q
    exact op_gt pins s σ H _ _ v u Q I rx ry ⟨_, _, rfl, rfl, q⟩
  · cases e
theorem ok_le : OpR X (compareOp .LtE) (rCmp X.K T.le?) := by
  intro pins s σ H x y v u Q I rx ry h
  obtain ⟨N, t, u', b, hx, hy, e, q⟩ := h
  unfold T.le? at e
  split at e
  · cases e
    rw [hx.int] at rx
    rw [hy.int] at ry
    rw [iLe_eq] at q
    exact op_le pins s σ H _ _ v u Q I rx ry ⟨_, _, rfl, rfl, q⟩
  · cases e
theorem ok_ge : OpR X (compareOp .GtE) (rCmp X.K fun x y => y.le? x) := by
  intro pins s σ H x y v u Q I rx ry h
  obtain ⟨N, t, u', b, hx, hy, e, q⟩ := h
  replace e : u'.le? t = some b := e
  unfold T.le? at e
  split at e
  · cases e
    rw [hx.int] at rx
    rw [hy.int] at ry
    rw [iLe_eq] at q
    exact op_ge pins s σ H _ _ v u Q I rx ry ⟨_, _, rfl, rfl, q⟩
  · cases e
def coOf : CO → CmpOp
  | .eq => .Eq
  | .ne => .NotEq
  | .lt => .Lt
  | .le => .LtE
  | .gt => .Gt
  | .ge => .GtE
  | .isin => .In
  | .notin => .NotIn
  | .is => .Is
  | .isnot => .IsNot
theorem ok_cmp (hu : X.A.units + 90 < cLine) (o : CO) : OpR X (compareOp (coOf o)) (rCmp X.K (cmp1 o)) := by
  cases o
  · exact ok_eq (by omega)
  · exact ok_ne (by omega)
  · exact ok_lt hu
  · exact ok_le
  · exact ok_gt
  · exact ok_ge
  · exact ok_in (by omega)
  · exact ok_notin (by omega)
  · exact ok_is
  · exact ok_isnot
end
end PB
end

section
set_option Elab.async false
set_option linter.all false
set_option maxRecDepth 100000
set_option maxHeartbeats 4000000
/-! Sound6: subscripts, slices, truth, built-ins, by values. -/
namespace PB
open PySem PySem.Spec PyProof.Rows L2
theorem optBind_some {α β : Type} {o : Option α} {f : α → Option β} {y : β} (h : optBind o f = some y) : ∃ x, o = some x ∧ f x = some y := by
  cases o with
  | none => cases h
  | some x => exact ⟨x, rfl, h⟩
theorem nth_get {α : Type} : ∀ (l : List α) (n : Nat), nth l n = l[n]?
  | [], n => by cases n <;> rfl
  | x :: l, 0 => rfl
  | x :: l, n + 1 => by
    show nth l n = _
    rw [nth_get l n]; rfl
theorem place_ix {n : Nat} {i : Int} {j : Nat} (h : place n i = some j) : ixN n i = some j := by
  cases i with
  | ofNat i =>
    obtain ⟨c, e⟩ := cond_some (show cond (Nat.blt i n) (some i) none = some j from h)
    cases e
    have c := Nat.blt_eq.mp c
    unfold ixN
    rw [if_pos (show (0 : Int) ≤ Int.ofNat j from Int.natCast_nonneg j), if_pos (show Int.ofNat j < (n : Int) from Int.ofNat_lt.mpr c)]
    rfl
  | negSucc i =>
    obtain ⟨c, e⟩ := cond_some (show cond (Nat.blt i n) (some (n - (i + 1))) none = some j from h)
    cases e
    have c := Nat.blt_eq.mp c
    unfold ixN
    have h1 : ¬ (0 : Int) ≤ Int.negSucc i := by omega
    have h2 : -(n : Int) ≤ Int.negSucc i := by omega
    rw [if_neg h1, if_pos h2]
    congr 1
    omega
theorem ixN_lt {n : Nat} {i : Int} {j : Nat} (h : ixN n i = some j) : j < n ∧ -(n : Int) ≤ i ∧ i < n := by
  obtain ⟨_, a, b, c⟩ := ixN_seq h
  exact ⟨a, b, c⟩
section
variable {X : Cx}
/-- a[i] by values, of lists, tuples -/
def rIxT (K : PySem.W.Frag) : R2 := fun x y H Q => ∃ N t u r, RRep K H N t x ∧ RRep K H N u y ∧ (∀ l, t ≠ .dct l) ∧ ixT t u = some r ∧ Res K H N ⟨r, .s⟩ Q
theorem ok_ix : IxR X (PB.rIxT X.K) := by
  intro value slice pins s σ H x y v u Q I rx ry h hs
  obtain ⟨N, t, u', r, hx, hy, hn, e, q⟩ := h
  unfold ixT at e
  split at e
  · obtain ⟨j, e1, e2⟩ := optBind_some e
    obtain ⟨a, vs, rfl, ha, ra⟩ := hx.lst
    have ey := hy.int
    subst ey
    rw [nth_get] at e2
    obtain ⟨w, hw, rw_⟩ := ra.get e2
    rw [ra.length] at e1
    exact ix_list value slice pins s σ H _ _ v u Q I rx ry ⟨_, _, _, w, rfl, rfl, SqL.of ha, by unfold atI; rw [place_ix e1]; exact hw, q.sh rw_⟩ hs
  · obtain ⟨j, e1, e2⟩ := optBind_some e
    obtain ⟨a, vs, rfl, ha, ra⟩ := hx.tup
    have ey := hy.int
    subst ey
    rw [nth_get] at e2
    obtain ⟨w, hw, rw_⟩ := ra.get e2
    rw [ra.length] at e1
    exact ix_tup value slice pins s σ H _ _ v u Q I rx ry ⟨_, _, _, w, rfl, rfl, ha, by unfold atI; rw [place_ix e1]; exact hw, q.sh rw_⟩ hs
  · exact absurd rfl (hn _)
  · obtain ⟨j, e1, e⟩ := optBind_some e
    obtain ⟨z, e2, e3⟩ := optBind_some e
    cases e3
    obtain ⟨a, rfl, ha⟩ := hx.scr
    have ey := hy.int
    subst ey
    rw [nth_get] at e2
    refine ix_list value slice pins s σ H _ _ v u Q I rx ry ⟨_, _, _, .int z, rfl, rfl, ha, ?_, q.sh (.int z)⟩ hs
    unfold atI
    rw [List.length_map, place_ix e1]
    show (_)[j]? = _
    rw [List.getElem?_map, e2]; rfl
  · cases e
/-! ### slices -/
theorem clip_ix (n d : Nat) (o : Option Int) : clip n d o = HT.sIx n d o := by
  cases o with
  | none => rfl
  | some i =>
    cases i with
    | ofNat i =>
      have e0 : HT.sIx n d (some (Int.ofNat i)) = min i n := by
        show (if Int.ofNat i < 0 then (Int.ofNat i + (n : Int)).toNat else min (Int.ofNat i).toNat n) = _
        rw [if_neg (show ¬ Int.ofNat i < 0 from fun h => absurd (Int.natCast_nonneg i) (Int.not_le.mpr h))]; rfl
      rw [e0]
      cases e : Nat.ble i n with
      | true => have := Nat.le_of_ble_eq_true e; show cond (Nat.ble i n) i n = _; rw [e]; show i = min i n; omega
      | false =>
        have h : ¬ i ≤ n := fun h => by rw [Nat.ble_eq_true_of_le h] at e; cases e
        show cond (Nat.ble i n) i n = _; rw [e]; show n = min i n; omega
    | negSucc i =>
      show n - (i + 1) = if Int.negSucc i < 0 then (Int.negSucc i + (n : Int)).toNat else _
      rw [if_pos (by omega)]
      omega
theorem cut_cutV {K : PySem.W.Frag} {H : Hp} {N : Addr → Prop} {ts : List T} {vs : List V} (h : Reps K H N ts vs) (lo hi : Option Int) : Reps K H N (cut ts lo hi) (cutV vs lo hi) := by
  unfold cut cutV
  rw [clip_ix, clip_ix, h.length]
  exact (h.drop _).take _
def rSlT (K : PySem.W.Frag) : V → Option Int → Option Int → Hp → VK → Prop := fun x lo hi H Q => ∃ N t r, RRep K H N t x ∧ slT t lo hi = some r ∧ Res K H N r Q
theorem ok_sl : SlR X (PB.rSlT X.K) := by
  have hh : SlR X (fun x lo hi H Q => rSlL X.K x lo hi H Q ∨ rSlA X.K x lo hi H Q) := SlR.or sl_list sl_tupA
  intro pins s σ H x v vl vu lo hi sl Q I rx hs pl pu h
  refine hh pins s σ H x v vl vu lo hi sl Q I rx hs pl pu ?_
  obtain ⟨N, t, r, hx, e, q⟩ := h
  unfold slT at e
  split at e
  · cases e
    obtain ⟨a, vs, rfl, ha, ra⟩ := hx.lst
    exact .inl ⟨a, vs, rfl, SqL.of ha, q.newL (cut_cutV ra _ _)⟩
  · cases e
    obtain ⟨a, vs, rfl, ha, ra⟩ := hx.tup
    refine .inr ⟨a, vs, rfl, ha, fun ⟨z1, z2⟩ => ?_, fun _ => q.newT (cut_cutV ra _ _)⟩
    have e1 : ∀ {ts : List T}, Reps X.K H N ts vs → cut ts lo hi = ts := fun {ts} rr => by
      unfold cut
      rw [clip_ix, clip_ix, rr.length, z1, z2, Nat.sub_zero, List.drop_zero, ← rr.length, List.take_length]
    rw [e1 ra] at q
    exact q.sh (.tup ha ra)
  · cases e
/-! ### truth -/
def rTru (K : PySem.W.Frag) : V → Hp → (Bool → Hp → Prop) → Prop := fun x H Q => ∃ N t b, RRep K H N t x ∧ t.tru = some b ∧ Q b H
theorem emp_eq {K : PySem.W.Frag} {H : Hp} {N : Addr → Prop} {ts : List T} {vs : List V} (h : Reps K H N ts vs) : ts.isEmpty = vs.isEmpty := by cases h <;> rfl
theorem tru_V {K : PySem.W.Frag} {H : Hp} {N : Addr → Prop} {t : T} {x : V} {b : Bool} (hx : RRep K H N t x) (e : t.tru = some b) : TruV K x H b ∨ ∃ a ks, x = .ref a ∧ Rd H a (.dK ks) ∧ b = !ks.isEmpty := by
  cases t with
  | non => cases e; rw [hx.non]; exact .inl rfl
  | bl c => cases e; rw [hx.bl]; exact .inl rfl
  | int i =>
    cases e
    rw [hx.int, iEq_beq]
    exact .inl rfl
  | str z =>
    obtain ⟨c, e⟩ := cond_some (show cond (sized z) (some (!z.isEmpty)) none = some b from e)
    cases e
    rw [hx.str]
    have hl := sized_le c
    refine .inl ⟨by rw [toStr_length]; omega, ?_⟩
    rw [toStr_length]
    cases z with
    | nil => rfl
    | cons a r =>
      show true = (((r.length + 1 : Nat) : Int) != 0)
      have : ((r.length + 1 : Nat) : Int) ≠ 0 := by omega
      simp [this]
      omega
  | tup ts =>
    cases e
    obtain ⟨a, vs, rfl, ha, ra⟩ := hx.tup
    exact .inl (.inr (.inl ⟨vs, ha, by rw [emp_eq ra]⟩))
  | lst ts =>
    cases e
    obtain ⟨a, vs, rfl, ha, ra⟩ := hx.lst
    exact .inl (.inl ⟨vs, SqL.of ha, by rw [emp_eq ra]⟩)
  | dct ts =>
    cases e
    obtain ⟨a, ks, rfl, ha, ra⟩ := hx.dct
    refine .inr ⟨a, ks, rfl, .inl ha, ?_⟩
    cases ra <;> rfl
  | scr ts => cases e
  | tpd ts => cases e
  | dtt ts => cases e
theorem ok_tru : TruR X (PB.rTru X.K) := by
  intro pins s σ H x v Q I rx h
  obtain ⟨N, t, b, hx, e, q⟩ := h
  rcases tru_V hx e with h | ⟨a, ks, rfl, hd, rfl⟩
  · exact tru_ok pins s σ H x v Q I rx ⟨b, h, q⟩
  · cases rx
    exact d_truth I hd fun s' I' => ⟨H, I', q⟩
/-! ### isinstance -/
def tyName : Ty → String
  | .int => "int"
  | .bool => "bool"
  | .str => "str"
  | .tuple => "tuple"
  | .list => "list"
  | .dict => "dict"
def tyOf : T → String
  | .non => "NoneType"
  | .bl _ => "bool"
  | .int _ => "int"
  | .str _ => "str"
  | .tup _ => "tuple"
  | .lst _ => "list"
  | .dct _ => "dict"
  | .dtt _ => "dict"
  | .scr _ => "dict"
  | .tpd _ => "tuple"
theorem tyX_of {K : PySem.W.Frag} {H : Hp} {N : Addr → Prop} {t : T} {x : V} (hx : RRep K H N t x) (hs : isScr t = false) : TyX K H x (.type (tyOf t)) := by
  cases t with
  | non => rw [hx.non]; exact .base .non
  | bl c => rw [hx.bl]; exact .base (.bl _)
  | int i => rw [hx.int]; exact .base (.int _)
  | str z => rw [hx.str]; exact .base (.str _)
  | tup ts =>
    obtain ⟨a, vs, rfl, (h | ⟨o, h⟩) | ⟨o, its, n, h, c, _⟩, ra⟩ := hx.tup
    · exact .base (.tup h)
    · exact .fTuple h
    · exact .kTuple h c
  | lst ts =>
    obtain ⟨a, vs, rfl, h, ra⟩ := hx.lst
    exact .base (.lst h)
  | dct ts =>
    obtain ⟨a, ks, rfl, h, ra⟩ := hx.dct
    exact .base (.dK h)
  | dtt ts =>
    obtain ⟨a, ks, rfl, h, ra⟩ := hx.dtt
    exact .base (.dT h)
  | scr ts => cases hs
  | tpd ts =>
    rcases hx with h | ⟨_, _, _, _, e, _⟩ | ⟨_, _, _, _, e, _⟩ | ⟨_, _, _, _, e, _⟩
    · cases h with
      | tpd h _ _ => exact .fTuple h
    · cases e
    · cases e
    · cases e
theorem kit_tys (t : T) (y : Ty) (hs : isScr t = false) : kitB (tyOf t) (tyName y) = some (isTy y t) := by
  cases t <;> first | (cases hs; done) | skip
  all_goals cases y <;> (simp only [tyOf, tyName, isTy, isInt, isBool, isStr, isLst, isDct, T.isTup]; decide +kernel)
def rIsiT (K : PySem.W.Frag) (y : Ty) : List V → Hp → VK → Prop := fun xs H Q => ∃ N t x, xs = [x, .ty (tyName y)] ∧ RRep K H N t x ∧ isScr t = false ∧ Q (.bl (isTy y t)) H
theorem ok_isi (y : Ty) : CallR X (.builtin "isinstance") (PB.rIsiT X.K y) := by
  intro pins s σ H xs us Q I r h
  obtain ⟨N, t, x, rfl, hx, hs, q⟩ := h
  exact call_isi pins s σ H _ us Q I r ⟨x, _, _, _, _, rfl, .ty _, tyX_of hx hs, kit_ty (kit_tys t y hs), q⟩
end
end PB
end

section
set_option Elab.async false
set_option linter.all false
set_option maxRecDepth 100000
set_option maxHeartbeats 4000000
/-! Sound7: built-ins by values. -/
namespace PB
open PySem PySem.Spec PyProof.Rows L2
/-- several values that are read -/
inductive RReps (K : PySem.W.Frag) (H : Hp) (N : Addr → Prop) : List T → List V → Prop
  | nil : RReps K H N [] []
  | cons {t : T} {v : V} {ts : List T} {vs : List V} : RRep K H N t v → RReps K H N ts vs → RReps K H N (t :: ts) (v :: vs)
def rB (K : PySem.W.Frag) (f : List T → Option TK) : List V → Hp → VK → Prop := fun vs H Q => ∃ N ts r, RReps K H N ts vs ∧ f ts = some r ∧ Res K H N r Q
section
variable {K : PySem.W.Frag} {H : Hp} {N : Addr → Prop}
theorem RReps.one {t : T} {vs : List V} (h : RReps K H N [t] vs) : ∃ v, vs = [v] ∧ RRep K H N t v := by
  cases h with
  | cons a b => cases b; exact ⟨_, rfl, a⟩
theorem RReps.two {t u : T} {vs : List V} (h : RReps K H N [t, u] vs) : ∃ v w, vs = [v, w] ∧ RRep K H N t v ∧ RRep K H N u w := by
  cases h with
  | cons a b =>
    cases b with
    | cons b c => cases c; exact ⟨_, _, rfl, a, b⟩
theorem allInts_some {l : List T} {ns : List Int} (h : allInts l = some ns) : l = ns.map T.int := by
  induction l generalizing ns with
  | nil => cases h; rfl
  | cons t l ih =>
    cases t with
    | int i =>
      obtain ⟨ms, e, e2⟩ := optBind_some h
      cases e2
      rw [ih e]; rfl
    | _ => cases h
theorem allBls_some {l : List T} {ns : List Bool} (h : allBls l = some ns) : l = ns.map T.bl := by
  induction l generalizing ns with
  | nil => cases h; rfl
  | cons t l ih =>
    cases t with
    | bl i =>
      obtain ⟨ms, e, e2⟩ := optBind_some h
      cases e2
      rw [ih e]; rfl
    | _ => cases h
theorem Reps.ints {ns : List Int} {vs : List V} (h : Reps K H N (ns.map T.int) vs) : vs = ns.map V.int := by
  induction ns generalizing vs with
  | nil => cases h; rfl
  | cons i ns ih =>
    cases h with
    | cons a b => cases a; rw [ih b]; rfl
theorem Reps.bls {ns : List Bool} {vs : List V} (h : Reps K H N (ns.map T.bl) vs) : vs = ns.map V.bl := by
  induction ns generalizing vs with
  | nil => cases h; rfl
  | cons i ns ih =>
    cases h with
    | cons a b => cases a; rw [ih b]; rfl
theorem Reps.ofInts : ∀ ns : List Int, Reps K H N (ns.map T.int) (ns.map V.int)
  | [] => .nil
  | i :: r => .cons (.int i) (Reps.ofInts r)
/-! ### ints -/
def insI (x : Int) : List Int → List Int
  | [] => [x]
  | y :: r => cond (iLt y x) (y :: insI x r) (x :: y :: r)
def sortI : List Int → List Int
  | [] => []
  | x :: r => insI x (sortI r)
theorem insI_perm (x : Int) : ∀ l, (insI x l).Perm (x :: l)
  | [] => .refl _
  | y :: r => by
    show (cond (iLt y x) (y :: insI x r) (x :: y :: r)).Perm _
    cases iLt y x with
    | true => exact ((insI_perm x r).cons y).trans (.swap x y r)
    | false => exact .refl _
theorem sortI_perm : ∀ l, (sortI l).Perm l
  | [] => .refl _
  | x :: r => (insI_perm x _).trans ((sortI_perm r).cons x)
theorem insI_sorted (x : Int) : ∀ l : List Int, l.Pairwise (· ≤ ·) → (insI x l).Pairwise (· ≤ ·)
  | [], _ => List.pairwise_singleton _ _
  | y :: r, h => by
    show (cond (iLt y x) (y :: insI x r) (x :: y :: r)).Pairwise _
    rw [List.pairwise_cons] at h
    cases c : iLt y x with
    | true =>
      rw [iLt_eq] at c
      have c := of_decide_eq_true c
      refine List.pairwise_cons.mpr ⟨fun z m => ?_, insI_sorted x r h.2⟩
      rcases List.mem_cons.mp ((insI_perm x r).mem_iff.mp m) with e | m
      · omega
      · exact h.1 z m
    | false =>
      rw [iLt_eq] at c
      have c := of_decide_eq_false c
      refine List.pairwise_cons.mpr ⟨fun z m => ?_, List.pairwise_cons.mpr h⟩
      rcases List.mem_cons.mp m with e | m
      · omega
      · have := h.1 z m; omega
theorem sortI_sorted : ∀ l, (sortI l).Pairwise (· ≤ ·)
  | [] => .nil
  | x :: r => insI_sorted x _ (sortI_sorted r)
theorem insert_int (x : Int) : ∀ l : List Int, insert (.int x) (l.map T.int) = (insI x l).map T.int
  | [] => rfl
  | y :: r => by
    show cond (iLt y x) (T.int y :: insert (.int x) (r.map T.int)) (T.int x :: T.int y :: r.map T.int) = (cond (iLt y x) (y :: insI x r) (x :: y :: r)).map T.int
    rw [insert_int x r]
    cases iLt y x <;> rfl
theorem sort_int : ∀ l : List Int, sort (l.map T.int) = (sortI l).map T.int
  | [] => rfl
  | x :: r => by
    show insert (.int x) (sort (r.map T.int)) = (insI x (sortI r)).map T.int
    rw [sort_int r, insert_int]
theorem sort_same {l l' : List Int} (p : l'.Perm l) (s : l'.Pairwise (· ≤ ·)) : l' = sortI l :=
  PySem.W.ksm_same (p.trans (sortI_perm l).symm) s (sortI_sorted l)
theorem maxI_mem : ∀ (l : List Int) (m : Int), maxI m l ∈ m :: l
  | [], m => List.mem_cons_self ..
  | x :: r, m => by
    show maxI (cond (iLt m x) x m) r ∈ _
    have := maxI_mem r (cond (iLt m x) x m)
    rcases List.mem_cons.mp this with e | h
    · rw [e]; cases iLt m x <;> simp
    · simp [h]
theorem maxI_le : ∀ (l : List Int) (m : Int), ∀ y ∈ m :: l, y ≤ maxI m l
  | [], m, y, h => by
    rw [List.mem_singleton] at h
    rw [h]; exact Int.le_refl _
  | x :: r, m, y, h => by
    show y ≤ maxI (cond (iLt m x) x m) r
    have k := maxI_le r (cond (iLt m x) x m)
    have k0 := k _ (List.mem_cons_self ..)
    rw [iLt_eq] at k0 ⊢
    rw [iLt_eq] at k
    rcases List.mem_cons.mp h with e | h
    · subst e
      by_cases q : y < x
      · rw [decide_eq_true q] at k0 ⊢; have k0 : x ≤ maxI (cond true x y) r := k0; omega
      · rw [decide_eq_false q] at k0 ⊢; exact k0
    · rcases List.mem_cons.mp h with e | h
      · subst e
        by_cases q : m < y
        · rw [decide_eq_true q] at k0 ⊢; exact k0
        · rw [decide_eq_false q] at k0 ⊢; have k0 : m ≤ maxI (cond false y m) r := k0; omega
      · exact k y (List.mem_cons_of_mem _ h)
theorem minI_mem : ∀ (l : List Int) (m : Int), minI m l ∈ m :: l
  | [], m => List.mem_cons_self ..
  | x :: r, m => by
    show minI (cond (iLt x m) x m) r ∈ _
    have := minI_mem r (cond (iLt x m) x m)
    rcases List.mem_cons.mp this with e | h
    · rw [e]; cases iLt x m <;> simp
    · simp [h]
theorem minI_le : ∀ (l : List Int) (m : Int), ∀ y ∈ m :: l, minI m l ≤ y
  | [], m, y, h => by
    rw [List.mem_singleton] at h
    rw [h]; exact Int.le_refl _
  | x :: r, m, y, h => by
    show minI (cond (iLt x m) x m) r ≤ y
    have k := minI_le r (cond (iLt x m) x m)
    have k0 := k _ (List.mem_cons_self ..)
    rw [iLt_eq] at k0 ⊢
    rw [iLt_eq] at k
    rcases List.mem_cons.mp h with e | h
    · subst e
      by_cases q : x < y
      · rw [decide_eq_true q] at k0 ⊢; have k0 : minI (cond true x y) r ≤ x := k0; omega
      · rw [decide_eq_false q] at k0 ⊢; exact k0
    · rcases List.mem_cons.mp h with e | h
      · subst e
        by_cases q : y < m
        · rw [decide_eq_true q] at k0 ⊢; exact k0
        · rw [decide_eq_false q] at k0 ⊢; have k0 : minI (cond false y m) r ≤ m := k0; omega
      · exact k y (List.mem_cons_of_mem _ h)
theorem sumI_sum : ∀ (l : List Int) (a : Int), sumI l a = a + l.sum
  | [], a => by show a = a + 0; omega
  | x :: r, a => by
    show sumI r (a + x) = _
    rw [sumI_sum r, List.sum_cons]; omega
theorem andB_all : ∀ l : List Bool, andB l = l.all id
  | [] => rfl
  | x :: r => by
    show cond x (andB r) false = _
    rw [andB_all r]
    cases x <;> rfl
theorem orB_any : ∀ l : List Bool, orB l = l.any id
  | [] => rfl
  | x :: r => by
    show cond x true (orB r) = _
    rw [orB_any r]
    cases x <;> rfl
end
section
variable {X : Cx}
theorem ok_len : CallR X (.builtin "len") (rB X.K lenB) := by
  intro pins s σ H xs us Q I r h
  obtain ⟨N, ts, y, hr, e, q⟩ := h
  unfold lenB at e
  split at e
  · obtain ⟨v, rfl, hx⟩ := hr.one
    obtain ⟨n, e1, e2⟩ := optBind_some e
    cases e2
    rename_i x
    have q' : Q (.int n) H := q.sh (.int _)
    cases x with
    | lst l =>
      cases e1
      obtain ⟨a, vs, rfl, ha, ra⟩ := hx.lst
      exact call_len pins s σ H _ us Q I r ⟨_, _, rfl, .inl ⟨vs, SqL.of ha, rfl⟩, by rw [← ra.length]; exact q'⟩
    | tup l =>
      cases e1
      obtain ⟨a, vs, rfl, ha, ra⟩ := hx.tup
      exact call_len pins s σ H _ us Q I r ⟨_, _, rfl, .inr ⟨vs, ha, rfl⟩, by rw [← ra.length]; exact q'⟩
    | scr l =>
      cases e1
      obtain ⟨a, rfl, ha⟩ := hx.scr
      exact call_len pins s σ H _ us Q I r ⟨_, _, rfl, .inl ⟨_, ha, rfl⟩, by rw [List.length_map]; exact q'⟩
    | dct l =>
      cases e1
      obtain ⟨a, ks, rfl, ha, ra⟩ := hx.dct
      rw [Vals.ref1 r]
      refine d_len I (.inl ha) fun t s' I' => ⟨.int _, H, I', ⟨t, rfl⟩, ?_⟩
      rw [← ra.len]; exact q'
    | str z =>
      obtain ⟨c, e1⟩ := cond_some e1
      cases e1
      rw [hx.str] at r
      exact call_len pins s σ H _ us Q I r ⟨.str (toStr z), z.length, rfl, ⟨by rw [toStr_length]; exact Nat.le_of_lt (sized_le c), (toStr_length z).symm⟩, q'⟩
    | dtt l =>
      cases e1
      obtain ⟨a, kvs, rfl, ha, ls, rfl, rfl⟩ := hx.dtt
      refine call_len_dT pins s σ H _ us Q I r ⟨a, _, rfl, ha, ?_⟩
      rw [List.length_map] at q' ⊢
      exact q'
    | _ => cases e1
  · cases e
theorem ok_abs : CallR X (.builtin "abs") (rB X.K absB) := by
  intro pins s σ H xs us Q I r h
  obtain ⟨N, ts, y, hr, e, q⟩ := h
  unfold absB at e
  split at e
  · cases e
    obtain ⟨v, rfl, hx⟩ := hr.one
    rw [hx.int] at r
    rename_i i
    refine call_abs pins s σ H _ us Q I r ⟨i, rfl, ?_⟩
    have e : (if i < 0 then -i else i) = cond (iLt i 0) (-i) i := by
      rw [iLt_eq]
      by_cases c : i < 0
      · rw [if_pos c, decide_eq_true c]; rfl
      · rw [if_neg c, decide_eq_false c]; rfl
    rw [e]
    exact q.sh (.int _)
  · cases e
theorem ok_int : CallR X (.type "int") (rB X.K intB) := by
  intro pins s σ H xs us Q I r h
  obtain ⟨N, ts, y, hr, e, q⟩ := h
  unfold intB at e
  split at e
  · cases e
    obtain ⟨v, rfl, hx⟩ := hr.one
    rw [hx.int] at r
    exact call_int1 pins s σ H _ us Q I r (.inl ⟨_, rfl, q.sh (.int _)⟩)
  · cases e
    obtain ⟨v, rfl, hx⟩ := hr.one
    rw [hx.bl] at r
    rename_i b
    refine call_int1 pins s σ H _ us Q I r (.inr ⟨_, rfl, ?_⟩)
    cases b <;> exact q.sh (.int _)
  · cases e
theorem ok_tuple : CallR X (.type "tuple") (rB X.K tupleB) := by
  intro pins s σ H xs us Q I r h
  obtain ⟨N, ts, y, hr, e, q⟩ := h
  unfold tupleB at e
  split at e
  · cases e
    obtain ⟨v, rfl, hx⟩ := hr.one
    obtain ⟨a, vs, rfl, ha, ra⟩ := hx.tup
    exact call_tuple_of pins s σ H _ us Q I r ⟨_, _, rfl, .inr ⟨ha, q.sh (.tup ha ra)⟩⟩
  · cases e
    obtain ⟨v, rfl, hx⟩ := hr.one
    obtain ⟨a, vs, rfl, ha, ra⟩ := hx.lst
    exact call_tuple_of pins s σ H _ us Q I r ⟨_, _, rfl, .inl ⟨SqL.of ha, q.newT ra⟩⟩
  · cases e
theorem RepKV.keyReps {K : PySem.W.Frag} {H : Hp} {N : Addr → Prop} {kvs : List (T × T)} {ks : List (Key × V)} (h : RepKV K H N kvs ks) : Reps K H N (kvs.map (·.1)) (ks.map fun kv => kV kv.1) := by
  induction kvs generalizing ks with
  | nil => cases h; exact .nil
  | cons p r ih =>
    cases h with
    | cons a b c =>
      rename_i k t c' v ks'
      refine .cons ?_ (ih c)
      show Rep K H N k (kV c')
      cases k with
      | int i => cases a; exact .int i
      | str s => cases a; exact .str s
      | _ => cases a
theorem TKs.keys {K : PySem.W.Frag} {H : Hp} {N : Addr → Prop} {ks : List T} {kvs : List (List Key × V)} (h : TKs ks kvs) {bs : List Addr} (r : IsKeys H kvs bs) : Reps K H N ks (bs.map V.ref) := by
  obtain ⟨ls, rfl, rfl⟩ := h
  induction ls generalizing bs with
  | nil => cases r; exact .nil
  | cons l ls ih =>
    cases r with
    | cons a b =>
      refine .cons (.tup (SqT.of a) ?_) (ih b)
      rw [List.map_map]
      exact .ofInts _
theorem ok_list (hc : X.calm = true) : CallR X (.type "list") (rB X.K listB) := by
  intro pins s σ H xs us Q I r h
  obtain ⟨N, ts, y, hr, e, q⟩ := h
  unfold listB at e
  split at e
  · cases e
    obtain ⟨v, rfl, hx⟩ := hr.one
    obtain ⟨a, vs, rfl, ha, ra⟩ := hx.lst
    exact call_list_of pins s σ H _ us Q I r ⟨_, _, rfl, .inl (SqL.of ha), q.newL ra⟩
  · cases e
    obtain ⟨v, rfl, hx⟩ := hr.one
    obtain ⟨a, vs, rfl, ha, ra⟩ := hx.tup
    exact call_list_of pins s σ H _ us Q I r ⟨_, _, rfl, .inr ha, q.newL ra⟩
  · cases e
    obtain ⟨v, rfl, hx⟩ := hr.one
    obtain ⟨a, vs, rfl, ha, ra⟩ := hx.dct
    exact call_list_dK hc pins s σ H _ us Q I r ⟨_, _, rfl, ha, q.newL ra.keyReps⟩
  · cases e
    obtain ⟨v, rfl, hx⟩ := hr.one
    obtain ⟨a, kvs, rfl, ha, ra⟩ := hx.dtt
    exact call_list_dT hc pins s σ H _ us Q I r ⟨_, _, rfl, .inl ha, fun p bs hp ib => q.newL (ra.keys ib) p hp⟩
  · cases e
theorem keys_ints {K : PySem.W.Frag} {H : Hp} {N : Addr → Prop} {kvs : List (T × T)} {ks : List (Key × V)} {ns : List Int} (h : RepKV K H N kvs ks) (e : kvs.map (·.1) = ns.map T.int) : ks.map (·.1) = ns.map Sum.inl := by
  induction kvs generalizing ks ns with
  | nil =>
    cases h
    cases ns with
    | nil => rfl
    | cons a b => cases e
  | cons p r ih =>
    cases h with
    | cons a b c =>
      cases ns with
      | nil => cases e
      | cons n ns =>
        rw [List.map_cons, List.map_cons] at e
        injection e with e1 e2
        simp only at e1
        subst e1
        cases a
        rw [List.map_cons, List.map_cons, ih c e2]
end
/-- side by side -/
inductive A2 {α β : Type} (P : α → β → Prop) : List α → List β → Prop
  | nil : A2 P [] []
  | cons {a : α} {b : β} {l : List α} {m : List β} : P a b → A2 P l m → A2 P (a :: l) (b :: m)
section
variable {α β : Type} {P : α → β → Prop}
theorem A2.memL {l : List α} {m : List β} (h : A2 P l m) {a : α} (ha : a ∈ l) : ∃ b, b ∈ m ∧ P a b := by
  induction h with
  | nil => cases ha
  | cons p _ ih =>
    rcases List.mem_cons.mp ha with e | ha
    · subst e; exact ⟨_, List.mem_cons_self, p⟩
    · obtain ⟨b, m1, q⟩ := ih ha
      exact ⟨b, List.mem_cons_of_mem _ m1, q⟩
theorem A2.memR {l : List α} {m : List β} (h : A2 P l m) {b : β} (hb : b ∈ m) : ∃ a, a ∈ l ∧ P a b := by
  induction h with
  | nil => cases hb
  | cons p _ ih =>
    rcases List.mem_cons.mp hb with e | hb
    · subst e; exact ⟨_, List.mem_cons_self, p⟩
    · obtain ⟨a, m1, q⟩ := ih hb
      exact ⟨a, List.mem_cons_of_mem _ m1, q⟩
theorem A2.perm {l l' : List α} (hp : l'.Perm l) : ∀ {m : List β}, A2 P l m → ∃ m', m'.Perm m ∧ A2 P l' m' := by
  induction hp with
  | nil => exact fun h => ⟨_, .refl _, h⟩
  | cons x _ ih =>
    intro m h
    cases h with
    | cons p h =>
      obtain ⟨m', h1, h2⟩ := ih h
      exact ⟨_, h1.cons _, .cons p h2⟩
  | swap x y l =>
    intro m h
    cases h with
    | cons p h =>
      cases h with
      | cons q h => exact ⟨_, .swap .., .cons q (.cons p h)⟩
  | trans _ _ ih1 ih2 =>
    intro m h
    obtain ⟨m1, h1, h2⟩ := ih2 h
    obtain ⟨m2, h3, h4⟩ := ih1 h2
    exact ⟨m2, h3.trans h1, h4⟩
theorem A2.pw {R : α → α → Prop} {S : β → β → Prop} (hs : ∀ {x y c d}, P x c → P y d → R x y → S c d) {l : List α} {m : List β} (h : A2 P l m) : l.Pairwise R → m.Pairwise S := by
  induction h with
  | nil => exact fun _ => .nil
  | cons p h ih =>
    intro hw
    obtain ⟨h1, h2⟩ := List.pairwise_cons.mp hw
    refine List.pairwise_cons.mpr ⟨fun d md => ?_, ih h2⟩
    obtain ⟨y, my, py⟩ := h.memR md
    exact hs p py (h1 y my)
end
section
variable {K : PySem.W.Frag} {H : Hp} {N : Addr → Prop}
/-- v means the pair of c -/
def PairV (K : PySem.W.Frag) (H : Hp) (N : Addr → Prop) (v : V) (c : Int) : Prop := ∃ i j : Int, TupI K H v [i, j] ∧ (0 ≤ i ∧ i < 64) ∧ (0 ≤ j ∧ j < 64) ∧ c = i * 64 + j ∧ Rep K H N (unpair (.int c)) v
theorem small64_some {i : Int} (h : small64 i = true) : 0 ≤ i ∧ i < 64 := by
  unfold small64 at h
  rw [iLt_eq, iLt_eq] at h
  cases e : decide (i < 0) with
  | true => rw [e] at h; cases h
  | false =>
    rw [e] at h
    exact ⟨by have := of_decide_eq_false e; omega, of_decide_eq_true h⟩
theorem Rep.pair {t : T} {v : V} {c : Int} (r : Rep K H N t v) (e : pairT t = some c) : PairV K H N v c := by
  have r := r.unR
  have key : ∀ (i j : Int), (if small64 i = true then (if small64 j = true then some (i * 64 + j) else none) else none) = some c → Rep K H N (.tup [.int i, .int j]) v → PairV K H N v c := by
    intro i j e r
    by_cases h1 : small64 i = true
    case neg => rw [if_neg h1] at e; cases e
    rw [if_pos h1] at e
    by_cases h2 : small64 j = true
    case neg => rw [if_neg h2] at e; cases e
    rw [if_pos h2] at e
    cases e
    have b1 := small64_some h1
    have b2 := small64_some h2
    have e1 : (i * 64 + j) / 64 = i := by omega
    have e2 : (i * 64 + j) % 64 = j := by omega
    obtain ⟨a, vs, ev, hs, rs⟩ := (RRep.of r).tup
    have hv : vs = [V.int i, V.int j] := by
      cases rs with
      | cons x rs =>
        cases rs with
        | cons y rs =>
          cases rs
          rw [(RRep.of x).int, (RRep.of y).int]
    refine ⟨i, j, ⟨a, ev, by rw [hv] at hs; exact hs⟩, b1, b2, rfl, ?_⟩
    show Rep K H N (.tup [.int ((i * 64 + j) / 64), .int ((i * 64 + j) % 64)]) v
    rw [e1, e2]; exact r
  have cc : ∀ {b d : Bool} {z : Int}, cond b (cond d (some z) none) none = some c → (if b = true then (if d = true then some z else none) else none) = some c := fun {b d z} h => by cases b <;> cases d <;> first | exact h | cases h
  unfold pairT at e
  split at e
  · exact key _ _ (cc e) r
  · exact key _ _ (cc e) r
  · cases e
theorem Reps.pairs {ts : List T} {vs : List V} {cs : List Int} (r : Reps K H N ts vs) (e : allPairs ts = some cs) : A2 (PairV K H N) vs cs := by
  induction ts generalizing vs cs with
  | nil => cases r; cases e; exact .nil
  | cons t ts ih =>
    cases r with
    | cons a b =>
      obtain ⟨c, e1, e⟩ := optBind_some e
      obtain ⟨l, e2, e3⟩ := optBind_some e
      cases e3
      exact .cons (a.pair e1) (ih b e2)
theorem A2.reps {vs : List V} {cs : List Int} (h : A2 (PairV K H N) vs cs) : Reps K H N (cs.map (unpair ∘ T.int)) vs := by
  induction h with
  | nil => exact .nil
  | cons p _ ih =>
    obtain ⟨_, _, _, _, _, _, r⟩ := p
    exact .cons r ih
end
section
variable {X : Cx}
theorem ok_sorted (hc : X.calm = true) : CallR X (.builtin "sorted") (rB X.K sortedB) := by
  intro pins s σ H xs us Q I r h
  obtain ⟨N, ts, y, hr, e, q⟩ := h
  unfold sortedB at e
  split at e
  · rename_i xs0
    obtain ⟨v, rfl, hx⟩ := hr.one
    obtain ⟨a, vs, rfl, ha, ra⟩ := hx.lst
    unfold sortedL at e
    cases e1 : allInts xs0 with
    | none =>
      rw [e1] at e
      obtain ⟨c, e⟩ := cond_some e
      obtain ⟨cs, e2, e3⟩ := optBind_some e
      cases e3
      have al := ra.pairs e2
      refine cr_sortT (d := 2) (B := 64) (by decide) pins s σ H _ us Q I r ⟨a, vs, rfl, SqL.of ha, by rw [← ra.length]; exact Nat.blt_eq.mp c, fun x m => ?_, fun ys p h1 h2 hp => ?_⟩
      · obtain ⟨c, _, i, j, ti, b1, b2, _, _⟩ := al.memL m
        exact ⟨[i, j], ti, rfl, fun z m => by
          rcases List.mem_cons.mp m with e | m
          · subst e; exact b1
          · rcases List.mem_cons.mp m with e | m
            · subst e; exact b2
            · cases m⟩
      · obtain ⟨cs', h3, h4⟩ := al.perm h1
        have h5 : cs' = sortI cs := sort_same h3 (h4.pw (fun {x y c d} hx hy hr => by
          obtain ⟨i, j, ti, _, _, ec, _⟩ := hx
          obtain ⟨i', j', ti', _, _, ec', _⟩ := hy
          have := hr _ _ ti ti'
          rw [code_pair, code_pair] at this
          omega) h2)
        subst h5
        rw [sort_int, List.map_map] at q
        exact q.newL h4.reps p hp
    | some ns =>
    rw [e1] at e
    cases e
    have e1 := allInts_some e1
    subst e1
    have ev := ra.ints
    subst ev
    refine cr_sortedI pins s σ H _ us Q I r ⟨a, ns, rfl, SqL.of ha, fun ns' p h1 h2 hp => ?_⟩
    rw [sort_int] at q
    rw [sort_same h1 h2]
    exact q.newL (.ofInts _) p hp
  · obtain ⟨c, e⟩ := cond_some e
    obtain ⟨ns, e1, e2⟩ := optBind_some e
    cases e2
    obtain ⟨v, rfl, hx⟩ := hr.one
    obtain ⟨a, ks, rfl, ha, ra⟩ := hx.dct
    have e1 := allInts_some e1
    have hk := keys_ints ra e1
    have hl : ns.length < 64 := by
      have c := Nat.blt_eq.mp c
      have := congrArg List.length e1
      rw [List.length_map, List.length_map] at this
      omega
    refine call_sortedDI hc pins s σ H _ us Q I r ⟨a, ks, ns, rfl, .inl ha, hk, hl, fun ns' p h1 h2 hp => ?_⟩
    rw [e1, sort_int] at q
    rw [sort_same h1 h2]
    exact q.newL (.ofInts _) p hp
  · cases e
theorem ok_all (hc : X.calm = true) : CallR X (.builtin "all") (rB X.K allB) := by
  intro pins s σ H xs us Q I r h
  obtain ⟨N, ts, y, hr, e, q⟩ := h
  unfold allB at e
  split at e
  · obtain ⟨ns, e1, e2⟩ := optBind_some e
    cases e2
    obtain ⟨v, rfl, hx⟩ := hr.one
    obtain ⟨a, vs, rfl, ha, ra⟩ := hx.lst
    have e1 := allBls_some e1
    subst e1
    have ev := ra.bls
    subst ev
    rw [andB_all] at q
    exact cr_all hc pins s σ H _ us Q I r ⟨a, ns, rfl, SqL.of ha, q.sh (.bl _)⟩
  · cases e
theorem ok_any (hc : X.calm = true) : CallR X (.builtin "any") (rB X.K anyB) := by
  intro pins s σ H xs us Q I r h
  obtain ⟨N, ts, y, hr, e, q⟩ := h
  unfold anyB at e
  split at e
  · obtain ⟨ns, e1, e2⟩ := optBind_some e
    cases e2
    obtain ⟨v, rfl, hx⟩ := hr.one
    obtain ⟨a, vs, rfl, ha, ra⟩ := hx.lst
    have e1 := allBls_some e1
    subst e1
    have ev := ra.bls
    subst ev
    rw [orB_any] at q
    exact cr_any hc pins s σ H _ us Q I r ⟨a, ns, rfl, SqL.of ha, q.sh (.bl _)⟩
  · cases e
theorem maxOf_some {ns : List Int} {y : TK} (e : maxOf ns = some y) : ∃ m, y = ⟨.int m, .s⟩ ∧ 0 < ns.length ∧ m ∈ ns ∧ ∀ z ∈ ns, z ≤ m := by
  cases ns with
  | nil => cases e
  | cons a r => cases e; exact ⟨_, rfl, Nat.succ_pos _, maxI_mem _ _, maxI_le _ _⟩
theorem minOf_some {ns : List Int} {y : TK} (e : minOf ns = some y) : ∃ m, y = ⟨.int m, .s⟩ ∧ 0 < ns.length ∧ m ∈ ns ∧ ∀ z ∈ ns, m ≤ z := by
  cases ns with
  | nil => cases e
  | cons a r => cases e; exact ⟨_, rfl, Nat.succ_pos _, minI_mem _ _, minI_le _ _⟩
theorem ok_max (hc : X.calm = true) : CallR X (.builtin "max") (rB X.K maxB) := by
  intro pins s σ H xs us Q I r h
  obtain ⟨N, ts, y, hr, e, q⟩ := h
  unfold maxB at e
  split at e
  · obtain ⟨ns, e1, e2⟩ := optBind_some e
    obtain ⟨v, rfl, hx⟩ := hr.one
    obtain ⟨a, vs, rfl, ha, ra⟩ := hx.lst
    have e1 := allInts_some e1
    subst e1
    have ev := ra.ints
    subst ev
    obtain ⟨m, rfl, h0, h1, h2⟩ := maxOf_some e2
    refine cr_max hc pins s σ H _ us Q I r ⟨a, ns, rfl, SqL.of ha, h0, fun m' k1 k2 => ?_⟩
    have : m' = m := Int.le_antisymm (h2 _ k1) (k2 _ h1)
    subst this
    exact q.sh (.int _)
  · cases e
theorem ok_min (hc : X.calm = true) : CallR X (.builtin "min") (rB X.K minB) := by
  intro pins s σ H xs us Q I r h
  obtain ⟨N, ts, y, hr, e, q⟩ := h
  unfold minB at e
  split at e
  · obtain ⟨ns, e1, e2⟩ := optBind_some e
    obtain ⟨v, rfl, hx⟩ := hr.one
    obtain ⟨a, vs, rfl, ha, ra⟩ := hx.lst
    have e1 := allInts_some e1
    subst e1
    have ev := ra.ints
    subst ev
    obtain ⟨m, rfl, h0, h1, h2⟩ := minOf_some e2
    refine cr_min hc pins s σ H _ us Q I r ⟨a, ns, rfl, SqL.of ha, h0, fun m' k1 k2 => ?_⟩
    have : m' = m := Int.le_antisymm (k2 _ h1) (h2 _ k1)
    subst this
    exact q.sh (.int _)
  · cases e
theorem ok_max2 (hc : X.calm = true) : CallR X (.builtin "max") (rB X.K max2B) := by
  intro pins s σ H xs us Q I r h
  obtain ⟨N, ts, y, hr, e, q⟩ := h
  unfold max2B at e
  split at e
  · cases e
    obtain ⟨v, w, rfl, hx, hy⟩ := hr.two
    rw [hx.int, hy.int] at r
    rename_i i j
    refine call_max2 hc pins s σ H _ us Q I r ⟨i, j, rfl, ?_⟩
    have e : (if j > i then j else i) = cond (iLt i j) j i := by
      rw [iLt_eq]
      by_cases c : i < j
      · rw [if_pos c, decide_eq_true c]; rfl
      · rw [if_neg c, decide_eq_false c]; rfl
    rw [e]
    exact q.sh (.int _)
  · cases e
theorem ok_min2 (hc : X.calm = true) : CallR X (.builtin "min") (rB X.K min2B) := by
  intro pins s σ H xs us Q I r h
  obtain ⟨N, ts, y, hr, e, q⟩ := h
  unfold min2B at e
  split at e
  · cases e
    obtain ⟨v, w, rfl, hx, hy⟩ := hr.two
    rw [hx.int, hy.int] at r
    rename_i i j
    refine call_min2 hc pins s σ H _ us Q I r ⟨i, j, rfl, ?_⟩
    have e : (if j < i then j else i) = cond (iLt j i) j i := by
      rw [iLt_eq]
      by_cases c : j < i
      · rw [if_pos c, decide_eq_true c]; rfl
      · rw [if_neg c, decide_eq_false c]; rfl
    rw [e]
    exact q.sh (.int _)
  · cases e
theorem ok_sum (hc : X.calm = true) : CallR X (.builtin "sum") (rB X.K sumB) := by
  intro pins s σ H xs us Q I r h
  obtain ⟨N, ts, y, hr, e, q⟩ := h
  unfold sumB at e
  split at e
  · obtain ⟨ns, e1, e2⟩ := optBind_some e
    cases e2
    obtain ⟨v, rfl, hx⟩ := hr.one
    obtain ⟨a, vs, rfl, ha, ra⟩ := hx.lst
    have e1 := allInts_some e1
    subst e1
    have ev := ra.ints
    subst ev
    rw [sumI_sum, Int.zero_add] at q
    exact cr_sum hc pins s σ H _ us Q I r ⟨a, ns, rfl, SqL.of ha, q.sh (.int _)⟩
  · cases e
end
end PB
end

section
set_option Elab.async false
set_option linter.all false
set_option maxRecDepth 100000
set_option maxHeartbeats 4000000
/-! Sound8: dict subscripts, methods, mutators, stores, by values. -/
namespace PB
open PySem PySem.Spec PyProof.Rows L2
def Upd (a : Addr) (H H' : Hp) : Prop := ∀ b, b ≠ a → H' b = H b
theorem Upd.upd {a : Addr} {H : Hp} {o : HO} : Upd a H (upd H a o) := fun b n => upd_ne n
theorem Upd.keep {a : Addr} {H H' : Hp} (u : Upd a H H') {b : Addr} {o : HO} (n : b ≠ a) (e : H b = some o) : H' b = some o := by rw [u b n]; exact e
section
variable {K : PySem.W.Frag} {H H' : Hp} {N : Addr → Prop} {a : Addr}
theorem own_upd_tup {o0 : HO} (u : Upd a H H') (h0 : H a = some o0) (hm : (∃ vs, o0 = .lst vs) ∨ (∃ ks, o0 = .dK ks) ∨ ∃ ks, o0 = .dT ks) : ∀ b o, H b = some o → (∃ xs, o = .tup xs ∨ ∃ ob, o = .frz ob (.tup xs)) → H' b = some o := fun b o eb h => u.keep (fun q => by
  subst q
  rw [h0] at eb
  cases eb
  rcases hm with ⟨vs, rfl⟩ | ⟨ks, rfl⟩ | ⟨ks, rfl⟩
  · obtain ⟨xs, h | ⟨ob, h⟩⟩ := h <;> cases h
  · obtain ⟨xs, h | ⟨ob, h⟩⟩ := h <;> cases h
  · obtain ⟨xs, h | ⟨ob, h⟩⟩ := h <;> cases h) eb
theorem OwnRep.mut {t : T} (h : OwnRep K H N t a) : ∃ o, H a = some o ∧ ((∃ vs, o = .lst vs) ∨ (∃ ks, o = .dK ks) ∨ ∃ ks, o = .dT ks) := by
  rcases h with ⟨ts, vs, _, h, _⟩ | ⟨ts, vs, _, h, _⟩ | ⟨ts, vs, _, h, _⟩
  · exact ⟨_, h, .inl ⟨_, rfl⟩⟩
  · exact ⟨_, h, .inr (.inl ⟨_, rfl⟩)⟩
  · exact ⟨_, h, .inr (.inr ⟨_, rfl⟩)⟩
theorem Rep.upd {o0 : HO} (na : N a) (u : Upd a H H') (h0 : H a = some o0) (hm : (∃ vs, o0 = .lst vs) ∨ (∃ ks, o0 = .dK ks) ∨ ∃ ks, o0 = .dT ks) {t : T} {v : V} (r : Rep K H N t v) : Rep K H' N t v :=
  r.keep (fun b o eb n _ => u.keep (fun q => n (q ▸ na)) eb) (own_upd_tup u h0 hm) (fun _ q => .inl q)
theorem Reps.upd {o0 : HO} (na : N a) (u : Upd a H H') (h0 : H a = some o0) (hm : (∃ vs, o0 = .lst vs) ∨ (∃ ks, o0 = .dK ks) ∨ ∃ ks, o0 = .dT ks) {t : List T} {v : List V} (r : Reps K H N t v) : Reps K H' N t v :=
  r.keep (fun b o eb n _ => u.keep (fun q => n (q ▸ na)) eb) (own_upd_tup u h0 hm) (fun _ q => .inl q)
theorem RepKV.upd {o0 : HO} (na : N a) (u : Upd a H H') (h0 : H a = some o0) (hm : (∃ vs, o0 = .lst vs) ∨ (∃ ks, o0 = .dK ks) ∨ ∃ ks, o0 = .dT ks) {t : List (T × T)} {v : List (Key × V)} (r : RepKV K H N t v) : RepKV K H' N t v :=
  r.keep (fun b o eb n _ => u.keep (fun q => n (q ▸ na)) eb) (own_upd_tup u h0 hm) (fun _ q => .inl q)
theorem OwnRep.lstE {ts : List T} (h : OwnRep K H N (.lst ts) a) : ∃ vs, H a = some (.lst vs) ∧ Reps K H N ts vs := by
  rcases h with ⟨ts, vs, e, h, r⟩ | ⟨ts, vs, e, h, r⟩ | ⟨ts, vs, e, h, r⟩
  · cases e; exact ⟨vs, h, r⟩
  · cases e
  · cases e
theorem OwnRep.dctE {ts : List (T × T)} (h : OwnRep K H N (.dct ts) a) : ∃ vs, H a = some (.dK vs) ∧ RepKV K H N ts vs := by
  rcases h with ⟨ts, vs, e, h, r⟩ | ⟨ts, vs, e, h, r⟩ | ⟨ts, vs, e, h, r⟩
  · cases e
  · cases e; exact ⟨vs, h, r⟩
  · cases e
theorem OwnRep.dttE {ts : List T} (h : OwnRep K H N (.dtt ts) a) : ∃ vs, H a = some (.dT vs) ∧ TKs ts vs := by
  rcases h with ⟨ts, vs, e, h, r⟩ | ⟨ts, vs, e, h, r⟩ | ⟨ts, vs, e, h, r⟩
  · cases e
  · cases e
  · cases e; exact ⟨vs, h, r⟩
/-- a list written anew -/
theorem OwnRep.wr {vs ws : List V} {ts : List T} (na : N a) (h : H a = some (.lst vs)) (r : Reps K H N ts ws) : OwnRep K (L2.upd H a (.lst ws)) N (.lst ts) a :=
  .inl ⟨ts, ws, rfl, upd_same, r.upd na .upd h (.inl ⟨_, rfl⟩)⟩
theorem OwnRep.wrD {vs ws : List (Key × V)} {ts : List (T × T)} (na : N a) (h : H a = some (.dK vs)) (r : RepKV K H N ts ws) : OwnRep K (L2.upd H a (.dK ws)) N (.dct ts) a :=
  .inr (.inl ⟨ts, ws, rfl, upd_same, r.upd na .upd h (.inr (.inl ⟨_, rfl⟩))⟩)
end
section
variable {X : Cx}
/-! ### a[i] -/
def rIxA (K : PySem.W.Frag) : R2 := fun x y H Q => ∃ N t u r, RRep K H N t x ∧ RRep K H N u y ∧ ixT t u = some r ∧ Res K H N ⟨r, .s⟩ Q
theorem ok_ixA (hu : X.A.units + 1 < cLine) : IxR X (rIxA X.K) := by
  intro value slice pins s σ H x y v u Q I rx ry h hs
  obtain ⟨N, t, u', r, hx, hy, e, q⟩ := h
  cases t with
  | dct kvs =>
    have e : cond (kindOk u' kvs) (dGet u' kvs) none = some r := e
    obtain ⟨c, e⟩ := cond_some e
    obtain ⟨a, ks, rfl, hd, rd⟩ := hx.dct
    cases rx
    obtain ⟨k, hk⟩ := kindOk_key rd c
    have g := dget_of (kvs := kvs) (.inl hd) hk hy
    rcases rd.get hk with ⟨e1, e2⟩ | ⟨t', w, e1, e2, rw_⟩
    · rw [e] at e1; cases e1
    · rw [e] at e1; cases e1
      rw [e2] at g
      exact tail_any (dict_typeIs I g) PySem.F.slot_dict_getitem.lookup (d_getItem hu I g ry fun w' s' I' rw' => ⟨w, H, I', rw', q.sh rw_⟩) hs
  | lst l => exact ok_ix value slice pins s σ H x y v u Q I rx ry ⟨N, _, u', r, hx, hy, nofun, e, q⟩ hs
  | tup l => exact ok_ix value slice pins s σ H x y v u Q I rx ry ⟨N, _, u', r, hx, hy, nofun, e, q⟩ hs
  | scr l => exact ok_ix value slice pins s σ H x y v u Q I rx ry ⟨N, _, u', r, hx, hy, nofun, e, q⟩ hs
  | _ => cases e
/-! ### index, count -/
def rM (K : PySem.W.Frag) (f : T → List T → Option TK) : V → List V → Hp → VK → Prop := fun x vs H Q => ∃ N t ts r, RRep K H N t x ∧ RReps K H N ts vs ∧ f t ts = some r ∧ Res K H N r Q
theorem findIx_some : ∀ (l : List T) (x : T) (n m : Nat), findIx x l n = some m → ∃ j z, m = n + j ∧ (toDs l)[j]? = some z ∧ PyData.eqv z (toD x) = true ∧ ∀ (i : Nat) (z' : PyData), i < j → (toDs l)[i]? = some z' → PyData.eqv z' (toD x) = false
  | [], x, n, m, h => by cases h
  | y :: r, x, n, m, h => by
    have h : cond (y.eqv x) (some n) (findIx x r (n + 1)) = some m := h
    cases c : y.eqv x with
    | true =>
      rw [c] at h
      cases h
      exact ⟨0, toD y, rfl, rfl, by rw [← eqv_toD]; exact c, fun i z' hi => absurd hi (Nat.not_lt_zero _)⟩
    | false =>
      rw [c] at h
      obtain ⟨j, z, e1, e2, e3, e4⟩ := findIx_some r x (n + 1) m h
      refine ⟨j + 1, z, by omega, e2, e3, fun i z' hi hz => ?_⟩
      cases i with
      | zero =>
        have e : some (toD y) = some z' := hz
        cases e
        rw [← eqv_toD]; exact c
      | succ i => exact e4 i z' (by omega) hz
theorem countIx_eq : ∀ (l : List T) (x : T) (n : Nat), countIx x l n = n + (toDs l).countP fun z => PyData.eqv z (toD x)
  | [], x, n => rfl
  | y :: r, x, n => by
    show cond (y.eqv x) (countIx x r (n + 1)) (countIx x r n) = n + (toD y :: toDs r).countP fun z => PyData.eqv z (toD x)
    rw [countIx_eq r x, countIx_eq r x, List.countP_cons, eqv_toD y x]
    cases PyData.eqv (toD y) (toD x) with
    | true => show n + 1 + _ = n + (_ + 1); omega
    | false => rfl
theorem ok_index (hu : X.A.units + 65 < cLine) : MtR X "list.index" (rM X.K (lstOnly indexT)) := by
  intro pins s σ H x xs v us Q I rx rxs h
  obtain ⟨N, t, ts, r, hx, hs, e, q⟩ := h
  cases t with
  | lst l =>
    have e : indexT (.lst l) ts = some r := e
    unfold indexT at e
    split at e
    · obtain ⟨l', e0, e⟩ := optBind_some e
      cases e0
      obtain ⟨h1, e⟩ := cond_some e
      obtain ⟨h2, e⟩ := cond_some e
      obtain ⟨m, e1, e2⟩ := optBind_some e
      cases e2
      obtain ⟨w, rfl, hw⟩ := hs.one
      rename_i y _ _ _ _
      obtain ⟨j, z, rfl, e3, e4, e5⟩ := findIx_some _ _ _ _ e1
      rw [Nat.zero_add] at q
      obtain ⟨a, vs, rfl, ha, ra⟩ := hx.lst
      have d3 : T.dataN 21 (.lst l) = true := h2
      exact mt_indexD hu pins s σ H _ _ v us Q I rx rxs ⟨a, w, toD y, toDs l, j, z, rfl, rfl, hx.dp d3, hw.dp h1, shaped_of (n := 21) (by decide) d3, shaped_of (n := 20) (by decide) h1, e3, e4, e5, q.sh (.int _)⟩
    · cases e
  | _ => cases e
theorem countP_reads {h : Heap} {f : PyData → Bool} : ∀ {its : List Value} {ds : List PyData}, its.map (SeqAt.readOf h) = ds → its.countP (fun u => f (SeqAt.readOf h u)) = ds.countP f := by
  intro its ds e
  rw [← e, List.countP_map]
  rfl
theorem ok_count (hu : X.A.units + 65 < cLine) : MtR X "list.count" (rM X.K (lstOnly countT)) := by
  intro pins s σ H x xs v us Q I rx rxs h
  obtain ⟨N, t, ts, r, hx, hs, e, q⟩ := h
  cases t with
  | lst l =>
    have e : countT (.lst l) ts = some r := e
    unfold countT at e
    split at e
    · obtain ⟨l', e0, e⟩ := optBind_some e
      cases e0
      obtain ⟨h1, e⟩ := cond_some e
      obtain ⟨h2, e⟩ := cond_some e
      cases e
      obtain ⟨w, rfl, hw⟩ := hs.one
      rename_i y _ _ _
      rw [countIx_eq, Nat.zero_add] at q
      have d3 : T.dataN 21 (.lst l) = true := h2
      have hl := hx.dp d3
      obtain ⟨a, vs, rfl, ha, ra⟩ := hx.lst
      have sl := shaped_of (n := 21) (by decide) d3
      have sd := shaped_of (n := 20) (by decide) h1
      cases rx
      cases rxs with
      | cons ry rt =>
        rename_i uy ut
        cases rt
        obtain ⟨bs, r1⟩ := Dp.reads I (toD y) w uy (hw.dp h1) ry
        have hxs : PyData.canLayAll0 (toDs l) = true := SeqAt.canLay_of_shaped sl
        have hroom : X.A.units + 1 + min (PyData.depthAll (toDs l)) (toD y).depth < cLine := room_in_shaped sd hu
        cases hl with
        | lst hs2 ha2 =>
          obtain ⟨its, rv, ⟨⟨cls, dd, data, sls⟩, n, ho, hc, hdn, hdt⟩, hlen⟩ := I.list hs2
          simp only at hc hdt
          subst hc hdt
          obtain ⟨as, h4⟩ := Dp.readsAll I (toDs l) _ its ha2 rv
          have hmap : its.map (SeqAt.readOf s.heap) = toDs l := SeqAt.readsAll_map (toDs l) its as hxs h4
          refine call_meets PySem.F.slot_list_count ⟨_, ho, rfl⟩ PySem.F.entry_list_count (PySem.F.args_list_count_2 _ _)
            (SeqAt.list_countAt a its.toArray n dd sls uy (fun u => PyData.eqv (SeqAt.readOf s.heap u) (toD y))) ⟨ho, SeqAt.items_eqAt (vs := its.toArray) (show ReadsAll s.heap its.toArray.toList (toDs l) as from h4) r1 hxs (SeqAt.canLay_of_shaped sd) hroom, ?_⟩
          refine ⟨.int _, H, I.tok _, ⟨s.toks, ?_⟩, q.sh (.int _)⟩
          rw [show its.toArray.toList = its from rfl, countP_reads (f := fun z => PyData.eqv z (toD y)) hmap]
          rfl
    · cases e
  | _ => cases e
/-! ### mutators -/
def rMu (K : PySem.W.Frag) (f : T → List T → Option T2) : V → List V → Hp → VK → Prop := fun x vs H Q => ∃ N a t ts t' y, x = .ref a ∧ N a ∧ OwnRep K H N t a ∧ RReps K H N ts vs ∧ f t ts = some ⟨t', y⟩ ∧
  ∀ v H', Upd a H H' → OwnRep K H' N t' a → Rep K H' N y v → Q v H'
def rMuG (K : PySem.W.Frag) (f : T → List T → Option T2) : V → List V → Hp → VK → Prop := fun x vs H Q => ∃ N a t ts t' y, x = .ref a ∧ N a ∧ OwnRep K H N t a ∧ Reps K H N ts vs ∧ f t ts = some ⟨t', y⟩ ∧
  ∀ v H', Upd a H H' → OwnRep K H' N t' a → Rep K H' N y v → Q v H'
theorem Reps.dropLast {K : PySem.W.Frag} {H : Hp} {N : Addr → Prop} {ts : List T} {vs : List V} (h : Reps K H N ts vs) : Reps K H N ts.dropLast vs.dropLast := by
  rw [List.dropLast_eq_take, List.dropLast_eq_take, h.length]
  exact h.take _
theorem Reps.eraseIdx {K : PySem.W.Frag} {H : Hp} {N : Addr → Prop} {ts : List T} {vs : List V} (h : Reps K H N ts vs) (n : Nat) : Reps K H N (ts.eraseIdx n) (vs.eraseIdx n) := by
  induction n generalizing ts vs with
  | zero =>
    cases h with
    | nil => exact .nil
    | cons a b => exact b
  | succ n ih =>
    cases h with
    | nil => exact .nil
    | cons a b => exact .cons a (ih b)
theorem Reps.set {K : PySem.W.Frag} {H : Hp} {N : Addr → Prop} {ts : List T} {vs : List V} (h : Reps K H N ts vs) {t : T} {v : V} (r : Rep K H N t v) (n : Nat) : Reps K H N (ts.set n t) (vs.set n v) := by
  induction n generalizing ts vs with
  | zero =>
    cases h with
    | nil => exact .nil
    | cons a b => exact .cons r b
  | succ n ih =>
    cases h with
    | nil => exact .nil
    | cons a b => exact .cons a (ih b)
theorem lastOf_at : ∀ (l : List T) (y : T), lastOf l = some y → l[l.length - 1]? = some y
  | [], _, h => by cases h
  | [x], _, h => by cases h; rfl
  | x :: z :: r, y, h => by
    have := lastOf_at (z :: r) y h
    simpa using this
theorem Reps.one {K : PySem.W.Frag} {H : Hp} {N : Addr → Prop} {t : T} {vs : List V} (h : Reps K H N [t] vs) : ∃ v, vs = [v] ∧ Rep K H N t v := by
  cases h with
  | cons a b => cases b; exact ⟨_, rfl, a⟩
theorem ok_append : MtM X "list.append" (rMuG X.K appendT) := by
  intro pins s σ H x vs v us Q I rx rv h
  obtain ⟨N, a, t, ts, t', y, rfl, na, own, hs, e, q⟩ := h
  unfold appendT at e
  split at e
  · obtain ⟨c, e⟩ := cond_some e
    cases e
    obtain ⟨ws, ha, ra⟩ := own.lstE
    obtain ⟨w, rfl, hw⟩ := hs.one
    refine mt_append pins s σ H _ _ v us Q I rx rv ⟨a, ws, w, rfl, rfl, ha, by rw [← ra.length]; exact sized_le c, ?_⟩
    exact q _ _ .upd (.wr na ha (ra.append (.cons hw .nil))) .non
  · cases e
theorem ok_pop : MtM X "list.pop" (rMuG X.K popT) := by
  intro pins s σ H x vs v us Q I rx rv h
  obtain ⟨N, a, t, ts, t', y, rfl, na, own, hs, e, q⟩ := h
  unfold popT at e
  split at e
  · obtain ⟨z, e1, e⟩ := optBind_some e
    cases e
    obtain ⟨ws, ha, ra⟩ := own.lstE
    cases hs
    have e1 := lastOf_at _ _ e1
    obtain ⟨w, hw, rw_⟩ := ra.get e1
    rw [ra.length] at hw
    refine mt_pop pins s σ H _ _ v us Q I rx rv ⟨a, ws, w, rfl, rfl, ha, hw, ?_⟩
    exact q _ _ .upd (.wr na ha ra.dropLast) (rw_.upd na .upd ha (.inl ⟨_, rfl⟩))
  · cases e
theorem ok_popAt : MtM X "list.pop" (rMuG X.K popAtT) := by
  intro pins s σ H x vs v us Q I rx rv h
  obtain ⟨N, a, t, ts, t', y, rfl, na, own, hs, e, q⟩ := h
  unfold popAtT at e
  split at e
  · obtain ⟨j, e1, e⟩ := optBind_some e
    obtain ⟨z, e2, e⟩ := optBind_some e
    cases e
    have hlen := I.hok
    obtain ⟨ws, ha, ra⟩ := own.lstE
    obtain ⟨w, rfl, hw⟩ := hs.one
    cases hw
    rw [nth_get] at e2
    obtain ⟨w, hw, rw_⟩ := ra.get e2
    rw [ra.length] at e1
    obtain ⟨h1, h2, h3, h4⟩ := ixN_seq (place_ix e1)
    obtain ⟨z1, _⟩ := I.lst ha
    obtain ⟨_, _, _, z1⟩ := I.lst ha
    have hn := line63
    refine mt_popAt pins s σ H _ _ v us Q I rx rv ⟨a, ws, _, j, w, rfl, rfl, ha, by omega, by omega, h1, hw, ?_⟩
    exact q _ _ .upd (.wr na ha (ra.eraseIdx j)) (rw_.upd na .upd ha (.inl ⟨_, rfl⟩))
  · cases e
theorem ok_extend : MtM X "list.extend" (rMu X.K extendT) := by
  intro pins s σ H x vs v us Q I rx rv h
  obtain ⟨N, a, t, ts, t', y, rfl, na, own, hs, e, q⟩ := h
  unfold extendT at e
  split at e
  · obtain ⟨c, e⟩ := cond_some e
    cases e
    obtain ⟨ws, ha, ra⟩ := own.lstE
    obtain ⟨w, rfl, hw⟩ := hs.one
    obtain ⟨b, zs, rfl, hb, rb⟩ := hw.lst
    have hl := sized_le c
    rw [List.length_append, ra.length, rb.length] at hl
    refine mt_extend pins s σ H _ _ v us Q I rx rv ⟨a, b, ws, zs, rfl, rfl, ha, hb, Nat.le_of_lt hl, ?_⟩
    exact q _ _ .upd (.wr na ha (ra.append rb)) .non
  · cases e
/-! ### stores -/
def rSt (K : PySem.W.Frag) : V → V → V → Hp → (Hp → Prop) → Prop := fun o i v H Q => ∃ N a t u x t', o = .ref a ∧ N a ∧ OwnRep K H N t a ∧ RRep K H N u i ∧ Rep K H N x v ∧ setT t u x = some t' ∧
  ∀ H', Upd a H H' → OwnRep K H' N t' a → Q H'
theorem ok_set (hu : X.A.units + 1 < cLine) : PSet X (rSt X.K) := by
  intro pins s σ H o i v ov iv u Q I ro ri rv h
  obtain ⟨N, a, t, u', x, t', rfl, na, own, hi, hx, e, q⟩ := h
  unfold setT at e
  split at e
  · obtain ⟨j, e1, e⟩ := optBind_some e
    cases e
    obtain ⟨ws, ha, ra⟩ := own.lstE
    rw [hi.int] at ri
    rw [ra.length] at e1
    refine set_list pins s σ H _ _ v ov iv u Q I ro ri rv ⟨a, ws, _, j, rfl, rfl, ha, place_ix e1, ?_⟩
    exact q _ .upd (.wr na ha (ra.set hx j))
  · obtain ⟨c, e⟩ := cond_some e
    obtain ⟨c2, e⟩ := cond_some e
    cases e
    obtain ⟨ks, ha, ra⟩ := own.dctE
    obtain ⟨k, hk⟩ := kindOk_key ra c
    have ei := keyOf_kV hk hi
    subst ei
    cases ro
    have hl := sized_le c2
    rw [ra.len] at hl
    refine d_setItem hu I (DPut.k ha hl) ri rv fun s' I' => ⟨_, I', ?_⟩
    exact q _ .upd (.wrD na ha (ra.put hk hx (dk_nd I (.inl ha))))
  · cases e
end
end PB
end

section
set_option Elab.async false
set_option linter.all false
set_option maxRecDepth 100000
set_option maxHeartbeats 4000000
/-! SoundS: slots. -/
namespace PB
open PySem PySem.Spec PyProof.Rows L2
theorem put_length : ∀ (ρ : Env) (i : Nat) (s : Sl), (put ρ i s).length = ρ.length
  | [], _, _ => rfl
  | _ :: r, 0, s => rfl
  | x :: r, i + 1, s => by
    show (x :: put r i s).length = _
    rw [List.length_cons, put_length r i s]; rfl
theorem slot_put_ne : ∀ (ρ : Env) {i j : Nat} (s : Sl), i ≠ j → slotAt (put ρ i s) j = slotAt ρ j
  | [], _, _, _, _ => rfl
  | x :: r, 0, 0, s, h => absurd rfl h
  | x :: r, 0, j + 1, s, h => rfl
  | x :: r, i + 1, 0, s, h => rfl
  | x :: r, i + 1, j + 1, s, h => slot_put_ne r s (fun e => h (by rw [e]))
theorem slot_put : ∀ (ρ : Env) {i : Nat} (s : Sl), i < ρ.length → slotAt (put ρ i s) i = s
  | [], _, _, h => absurd h (Nat.not_lt_zero _)
  | x :: r, 0, s, h => rfl
  | x :: r, i + 1, s, h => slot_put r s (Nat.lt_of_succ_lt_succ h)
theorem slot_lt : ∀ {ρ : Env} {i : Nat}, slotAt ρ i ≠ .no → i < ρ.length
  | [], _, h => absurd rfl h
  | x :: r, 0, h => Nat.succ_pos _
  | x :: r, i + 1, h => Nat.succ_lt_succ (slot_lt (ρ := r) h)
theorem slot_put_any (ρ : Env) {i : Nat} (s : Sl) : slotAt (put ρ i s) i = s ∨ (slotAt (put ρ i s) i = .no ∧ ρ.length ≤ i) := by
  by_cases h : i < ρ.length
  · exact .inl (slot_put ρ s h)
  · refine .inr ⟨?_, Nat.le_of_not_lt h⟩
    cases e : slotAt (put ρ i s) i with
    | no => rfl
    | _ =>
      have := slot_lt (ρ := put ρ i s) (i := i) (by rw [e]; nofun)
      rw [put_length] at this
      exact absurd this h
def setO (O : OA) (i : Nat) (o : Option Addr) : OA := fun j => if j = i then o else O j
theorem setO_same {O : OA} {i : Nat} {o : Option Addr} : setO O i o i = o := if_pos rfl
theorem setO_ne {O : OA} {i j : Nat} {o : Option Addr} (h : j ≠ i) : setO O i o j = O j := if_neg h
section
variable {K : PySem.W.Frag} {TB : List (Addr × Str)} {H H' : Hp} {W W' : Addr → Prop} {O : OA} {ρ : Env} {σ σ' : L2.St}
theorem EnvRep.upd1 {i : Nat} {s : Sl} {o : Option Addr} (h : EnvRep K TB H W O σ ρ) (hl : σ'.length = σ.length)
    (others : ∀ j, j ≠ i → SlRep K H' (NG W' (setO O i o)) (slotAt ρ j) σ'[j]? (O j)) (self : SlRep K H' (NG W' (setO O i o)) s σ'[i]? o) (hi : i < ρ.length)
    (disj : ∀ a, o = some a → ¬ W' a ∧ ∀ j, j ≠ i → O j ≠ some a) (out : ∀ j a, j ≠ i → O j = some a → ¬ W' a) (wt : ∀ a, W' a → ∃ o, H' a = some o ∧ nt o) (tab : LamX.Tabs TB H') : EnvRep K TB H' W' (setO O i o) σ' (put ρ i s) where
  len := by rw [put_length, h.len, hl]
  sl := fun j => by
    by_cases e : j = i
    · subst e
      rw [setO_same, slot_put ρ s hi]
      exact self
    · rw [setO_ne e, slot_put_ne ρ s (Ne.symm e)]
      exact others j e
  inj := fun j k a e1 e2 => by
    by_cases c1 : j = i
    · subst c1
      rw [setO_same] at e1
      by_cases c2 : k = j
      · exact c2.symm
      · rw [setO_ne c2] at e2
        exact absurd e2 ((disj a e1).2 k c2)
    · rw [setO_ne c1] at e1
      by_cases c2 : k = i
      · subst c2
        rw [setO_same] at e2
        exact absurd e1 ((disj a e2).2 j c1)
      · rw [setO_ne c2] at e2
        exact h.inj j k a e1 e2
  out := fun j a e => by
    by_cases c1 : j = i
    · subst c1
      rw [setO_same] at e
      exact (disj a e).1
    · rw [setO_ne c1] at e
      exact out j a c1 e
  wt := wt
  tab := tab
theorem ng_setO {i : Nat} {o : Option Addr} (ho : o = none ∨ o = O i) : ∀ b, NG W (setO O i o) b → NG W O b := fun b q => by
  rcases q with q | ⟨j, q⟩
  · exact .inl q
  · refine .inr ⟨j, ?_⟩
    by_cases c : j = i
    · subst c
      rw [setO_same] at q
      rcases ho with ho | ho
      · rw [ho] at q; cases q
      · rw [← ho]; exact q
    · rw [setO_ne c] at q; exact q
theorem EnvRep.nss {i : Nat} (h : EnvRep K TB H W O σ ρ) (e : slotAt ρ i ≠ .no) : i < ρ.length := slot_lt e
/-- an own slot: what it holds -/
theorem EnvRep.ow {i : Nat} {bb : Bool} {t : T} (h : EnvRep K TB H W O σ ρ) (e : slotAt ρ i = .ow bb t) : ∃ a, O i = some a ∧ σ[i]? = some (some (.ref a)) ∧ OwnRep K H (NG W O) t a := by
  have q := h.sl i
  rw [e] at q
  exact q
theorem OwnRep.leak {t : T} {a : Addr} {N : Addr → Prop} (h : OwnRep K H N t a) (na : ¬ N a) : Rep K H N t (.ref a) := by
  rcases h with ⟨ts, vs, e, h, r⟩ | ⟨ts, vs, e, h, r⟩ | ⟨ts, vs, e, h, r⟩
  · subst e; exact .lst h na r
  · subst e; exact .dct h na r
  · subst e; exact .dtt h na r
/-- an own thing is leaked -/
theorem EnvRep.leak {i : Nat} {bb : Bool} {t : T} {a : Addr} {s : Sl} (h : EnvRep K TB H W O σ ρ) (e : slotAt ρ i = .ow bb t) (ea : O i = some a) (hs : s = cond bb (.fz t) (.sh t)) :
    EnvRep K TB H W (setO O i none) σ (put ρ i s) ∧ Rep K H (NG W (setO O i none)) t (.ref a) ∧ Post H O ρ H (setO O i none) (put ρ i s) := by
  obtain ⟨a', e1, ev, r⟩ := h.ow e
  rw [ea] at e1
  cases e1
  have hi : i < ρ.length := slot_lt (by rw [e]; nofun)
  have na : ¬ NG W (setO O i none) a := fun q => by
    rcases q with q | ⟨j, q⟩
    · exact h.out i a ea q
    · by_cases c : j = i
      · subst c; rw [setO_same] at q; cases q
      · rw [setO_ne c] at q
        exact c (h.inj j i a q ea)
  have r' : Rep K H (NG W (setO O i none)) t (.ref a) := (r.weak (ng_setO (.inl rfl))).leak na
  refine ⟨h.upd1 rfl (fun j c => (h.sl j).weak (ng_setO (.inl rfl))) ?_ hi (fun _ z => by cases z) (fun j b _ q => h.out j b q) h.wt h.tab, r', ⟨fun j b q => ?_, fun b o q _ _ => q, fun b o q z => ⟨o, q, z⟩, fun j q => ?_, fun j b2 u q => ?_, fun j q => ?_, fun j u q => ?_⟩⟩
  · subst hs
    cases bb
    · exact ⟨rfl, _, ev, r'⟩
    · exact ⟨rfl, _, ev, r'⟩
  · by_cases c : j = i
    · subst c; rw [setO_same] at q; cases q
    · rw [setO_ne c] at q; exact q
  · by_cases c : j = i
    · subst c; rw [slot_put ρ s hi]; subst hs; cases bb <;> nofun
    · rw [slot_put_ne ρ s (Ne.symm c)]; exact q
  · by_cases c : j = i
    · subst c; rw [slot_put ρ s hi] at q; subst hs; cases bb <;> cases q
    · rw [slot_put_ne ρ s (Ne.symm c)] at q; exact ⟨u, q⟩
  · by_cases c : j = i
    · subst c
      rw [slot_put ρ s hi]
      rw [e] at q
      subst hs
      cases bb
      · cases q
      · rfl
    · rw [slot_put_ne ρ s (Ne.symm c)]; exact q
  · have c : j ≠ i := fun c => by subst c; rw [e] at q; cases q
    rw [slot_put_ne ρ s (Ne.symm c), setO_ne c]
    exact ⟨q, rfl⟩
theorem setO_id {i : Nat} : setO O i (O i) = O := by
  funext j
  unfold setO
  by_cases c : j = i
  · rw [if_pos c, c]
  · rw [if_neg c]
/-- an own thing is changed -/
theorem EnvRep.mut {i : Nat} {bb : Bool} {t t' : T} {a : Addr} (h : EnvRep K TB H W O σ ρ) (e : slotAt ρ i = .ow bb t) (ea : O i = some a) (u : Upd a H H') (r' : OwnRep K H' (NG W O) t' a) :
    EnvRep K TB H' W O σ (put ρ i (.ow bb t')) ∧ Post H O ρ H' O (put ρ i (.ow bb t')) := by
  obtain ⟨a', e1, ev, r⟩ := h.ow e
  rw [ea] at e1
  cases e1
  have hi : i < ρ.length := slot_lt (by rw [e]; nofun)
  obtain ⟨o0, h0, hm⟩ := r.mut
  have na : NG W O a := .inr ⟨i, ea⟩
  have kp : ∀ b o, H b = some o → nt o → ∃ o', H' b = some o' ∧ nt o' := fun b o q z => by
    by_cases c : b = a
    · subst c
      exact r'.thereN
    · exact ⟨o, u.keep c q, z⟩
  have tab : ∀ P q, LamX.TabS H P q → LamX.TabS H' P q := fun P q z => by
    obtain ⟨ps, h1, h2, h3⟩ := z
    have nP : P ≠ a := fun c => by
      subst c
      rw [h0] at h1
      cases h1
      rcases hm with ⟨vs, hm⟩ | ⟨ks, hm⟩ | ⟨ks, hm⟩ <;> cases hm
    refine ⟨ps, u.keep nP h1, h2, fun pos cv hc => ?_⟩
    obtain ⟨c, e1, e2⟩ := h3 pos cv hc
    refine ⟨c, e1, u.keep (fun z => ?_) e2⟩
    subst z
    rw [h0] at e2
    cases e2
    rcases hm with ⟨vs, hm⟩ | ⟨ks, hm⟩ | ⟨ks, hm⟩ <;> cases hm
  have res := EnvRep.upd1 (i := i) (s := .ow bb t') (o := O i) (σ' := σ) (W' := W) (H' := H') h rfl (fun j c => ?_) ?_ hi ?_ (fun j b _ q => h.out j b q) (fun b q => ?_) fun p hp => tab _ _ (h.tab p hp)
  rotate_left
  · rw [setO_id]
    have q := h.sl j
    revert q
    cases slotAt ρ j with
    | no => exact id
    | sh t1 => rintro ⟨q0, v, ev, r1⟩; exact ⟨q0, v, ev, r1.upd na u h0 hm⟩
    | fz t1 => rintro ⟨q0, v, ev, r1⟩; exact ⟨q0, v, ev, r1.upd na u h0 hm⟩
    | ow b1 t1 =>
      rintro ⟨a1, q0, ev, r1⟩
      have nb : a1 ≠ a := fun z => c (h.inj j i a (z ▸ q0) ea)
      refine ⟨a1, q0, ev, ?_⟩
      rcases r1 with ⟨ts, vs, e, hh, rr⟩ | ⟨ts, vs, e, hh, rr⟩ | ⟨ts, vs, e, hh, rr⟩
      · exact .inl ⟨ts, vs, e, u.keep nb hh, rr.upd na u h0 hm⟩
      · exact .inr (.inl ⟨ts, vs, e, u.keep nb hh, rr.upd na u h0 hm⟩)
      · exact .inr (.inr ⟨ts, vs, e, u.keep nb hh, rr⟩)
    | le t1 =>
      rintro ⟨a1, q0, ev, r1⟩
      have nb : a1 ≠ a := fun z => c (h.inj j i a (z ▸ q0) ea)
      refine ⟨a1, q0, ev, ?_⟩
      rcases r1 with ⟨ts, vs, e, hh, rr⟩ | ⟨ts, vs, e, hh, rr⟩ | ⟨ts, vs, e, hh, rr⟩
      · exact .inl ⟨ts, vs, e, u.keep nb hh, rr.upd na u h0 hm⟩
      · exact .inr (.inl ⟨ts, vs, e, u.keep nb hh, rr.upd na u h0 hm⟩)
      · exact .inr (.inr ⟨ts, vs, e, u.keep nb hh, rr⟩)
  · rw [setO_id]
    exact ⟨a, ea, ev, r'⟩
  · intro b eb
    rw [ea] at eb
    cases eb
    exact ⟨h.out i a ea, fun j c z => c (h.inj j i a z ea)⟩
  · obtain ⟨o, e, z⟩ := h.wt b q
    exact kp b o e z
  rw [setO_id] at res
  refine ⟨res, ⟨fun _ _ q => q, fun b o q n _ => u.keep (fun c => n ⟨i, bb, t, by rw [ea, c], e⟩) q, kp, fun j q => ?_, fun j b2 w q => ?_, fun j q => ?_, fun j w q => ?_⟩⟩
  · by_cases c : j = i
    · subst c; rw [slot_put ρ _ hi]; nofun
    · rw [slot_put_ne ρ _ (Ne.symm c)]; exact q
  · by_cases c : j = i
    · subst c; rw [slot_put ρ _ hi] at q; cases q; exact ⟨t, e⟩
    · rw [slot_put_ne ρ _ (Ne.symm c)] at q; exact ⟨w, q⟩
  · by_cases c : j = i
    · subst c
      rw [slot_put ρ _ hi]
      rw [e] at q
      cases bb
      · cases q
      · rfl
    · rw [slot_put_ne ρ _ (Ne.symm c)]; exact q
  · have c : j ≠ i := fun c => by subst c; rw [e] at q; cases q
    rw [slot_put_ne ρ _ (Ne.symm c)]
    exact ⟨q, rfl⟩
end
end PB
end

section
set_option Elab.async false
set_option linter.all false
set_option maxRecDepth 100000
set_option maxHeartbeats 4000000
/-! Sound9: readings put together; rules of expressions. -/
namespace PB
open PySem PySem.Spec PyProof.Rows L2
section
variable {K : PySem.W.Frag} {TB : List (Addr × Str)} {C : CT} {Wx : WX} {σ : L2.St} {H H1 H2 : Hp} {W W1 : Addr → Prop} {O O1 : OA} {ρ ρ1 : Env}
variable {α β : Type} {k' : Kd K σ α β}
/-- one value, then the rest -/
theorem one {ra : EV} {f : TK → Env → R α} {Q : β → Hp → Prop} {Rr : V → Hp → Prop} (g : tR TB C Wx k' (fun ρ => (ra ρ).bind f) H Q)
    (h : ∀ W O ρ x v H1, EnvRep K TB H1 W O σ ρ → RRep K H1 (NG W O) (val ρ x) v → Go TB C Wx k' H1 W O ρ (f x ρ) Q → Rr v H1) : tE K TB C Wx ra σ H Rr := by
  obtain ⟨W, O, ρ, en, g⟩ := g
  refine ⟨W, O, ρ, en, Go.first (k := kdV K TB σ) g fun x ρ1 v H1 O1 e p vp g1 => ?_⟩
  have vp : VPost K TB (nw H O ρ) H1 W O1 σ ρ1 x v := vp
  exact h W O1 ρ1 x v H1 vp.env (vp.read.weak (ng_mono heldW_le)) g1
theorem VPost.late {Nw : Addr → Prop} {x : TK} {v : V} (h : VPost K TB Nw H W O σ ρ x v) (p : Post H O ρ H1 O1 ρ1) (e1 : EnvRep K TB H1 (heldW W x v) O1 σ ρ1) : RRep K H1 (NG W O1) (val ρ1 x) v :=
  (h.later p e1).weak (ng_mono heldW_le)
theorem two {ra rb : EV} {f : TK → TK → Env → R α} {Q : β → Hp → Prop} {Rr : V → V → Hp → Prop} (g : tR TB C Wx k' (fun ρ => (ra ρ).bind fun x ρ => (rb ρ).bind fun y ρ => f x y ρ) H Q)
    (h : ∀ W O ρ x y v u H2, EnvRep K TB H2 W O σ ρ → RRep K H2 (NG W O) (val ρ x) v → RRep K H2 (NG W O) (val ρ y) u → Go TB C Wx k' H2 W O ρ (f x y ρ) Q → Rr v u H2) :
    tE K TB C Wx ra σ H fun v H1 => tE K TB C Wx rb σ H1 fun u H2 => Rr v u H2 := by
  obtain ⟨W, O, ρ, en, g⟩ := g
  refine ⟨W, O, ρ, en, Go.first (k := kdV K TB σ) g fun x ρ1 v H1 O1 e p vp g1 => ?_⟩
  have vp : VPost K TB (nw H O ρ) H1 W O1 σ ρ1 x v := vp
  refine ⟨_, O1, ρ1, vp.envH, Go.first (k := kdV K TB σ) (g1.shift Post.refl heldW_le) fun y ρ2 u H2 O2 e2 p2 vp2 _ => ?_⟩
  have vp2 : VPost K TB (nw H1 O1 ρ1) H2 (heldW W x v) O2 σ ρ2 y u := vp2
  have en2 := vp2.env
  have g2 : Go TB C Wx k' H1 W O1 ρ1 ((rb ρ1).bind fun y ρ => f x y ρ) Q := g1
  rw [e2] at g2
  have g3 : Go TB C Wx k' H1 W O1 ρ1 (f x y ρ2) Q := g2
  exact h W O2 ρ2 x y v u H2 (en2.drop heldW_le) (vp.late p2 en2) (vp2.read.weak fun b q => ng_mono heldW_le b (ng_mono heldW_le b q)) (g3.shift p2 fun _ q => q)
/-- a result by value, at the end -/
theorem Go.ofOpt {r : Option TK} {Q : VK} (e : EnvRep K TB H W O σ ρ) (g : Go TB C Wx (kdV K TB σ) H W O ρ (ofOpt r ρ) Q) : ∃ x, r = some x ∧ Res K H (NG W O) x Q := by
  cases r with
  | none => exact g.elim
  | some x => exact ⟨x, rfl, Go.res e g⟩
theorem Go.okB {r : Option Bool} {Q : VK} (e : EnvRep K TB H W O σ ρ) (g : Go TB C Wx (kdV K TB σ) H W O ρ (okB ρ r) Q) : ∃ b, r = some b ∧ Q (.bl b) H := by
  cases r with
  | none => exact g.elim
  | some x => exact ⟨x, rfl, Go.resB e g⟩
end
section
variable {X : Cx} {TB : List (Addr × Str)} {C : CT} {Wx : WX} {a b c : Expr} {ra rb rc : EV} {pos : Pos}
/-! ### operators, comparisons -/
def opOp : O2 → Operator := opOf
theorem r_op (o : O2) (ha : PE X a (tE X.K TB C Wx ra)) (hb : PE X b (tE X.K TB C Wx rb)) : PE X (.BinOp a (opOf o) b pos) (tE X.K TB C Wx (opK o ra rb)) := by
  refine (pe_op (ok_op o) ha hb).mono fun σ H Q g => ?_
  refine two g fun W O ρ x y v u H2 en rx ry g => ?_
  obtain ⟨r, e, q⟩ := Go.ofOpt en g
  exact ⟨_, _, _, _, rx, ry, e, q⟩
def rCmp1 (K : PySem.W.Frag) (o : CO) : R2 := rCmp K (cmp1 o)
theorem pc_op {op : CmpOp} {r : R2} {ta tb : TE} (ho : OpR X (compareOp op) r) (ha : PE X a ta) (hb : PE X b tb) : PC X op a b (tOp r ta tb) :=
  ⟨fun pins s σ H Q I h => binT ha hb I h fun v u s2 x y H2 I2 rx ry q => ho pins s2 σ H2 x y v u Q I2 rx ry q⟩
theorem r_cmp (hu : X.A.units + 90 < cLine) (o : CO) (ha : PE X a (tE X.K TB C Wx ra)) (hb : PE X b (tE X.K TB C Wx rb)) : PC X (coOf o) a b (tE X.K TB C Wx (cmpK o ra rb)) := by
  have h := pc_op (ok_cmp hu o) ha hb
  refine ⟨fun pins s σ H Q I g => h.run pins s σ H Q I ?_⟩
  refine two g fun W O ρ x y v u H2 en rx ry g => ?_
  obtain ⟨r, e, q⟩ := Go.okB en g
  exact ⟨_, _, _, _, rx, ry, e, q⟩
theorem r_neg (ha : PE X a (tE X.K TB C Wx ra)) : PE X (.UnaryOp .USub a pos) (tE X.K TB C Wx (negK ra)) := by
  refine (pe_un un_neg ha).mono fun σ H Q g => ?_
  refine one g fun W O ρ x v H2 en rx g => ?_
  obtain ⟨r, e, q⟩ := Go.ofOpt en g
  unfold negT at e
  split at e
  · rename_i i ex
    rw [ex] at rx
    cases e
    exact ⟨i, rx.int, q.sh (.int _)⟩
  · cases e
/-! ### names, constants -/
theorem r_var {i : Nat} {x : Str} (hN : X.N[i]? = some x) (hv : Vis X.env.scope x) (hd : (x == ("__debug__" : Str)) = false) (hcd : (x == ("__classdict__" : Str)) = false) : PE X (.Name x pos) (tE X.K TB C Wx (rdV i)) := by
  refine (pe_var hN hv hd hcd).mono fun σ H Q g => ?_
  obtain ⟨W, O, ρ, en, g⟩ := g
  have g : Go TB C Wx (kdV X.K TB σ) H W O ρ (rdV1 i ρ (slotAt ρ i)) Q := g
  have q := en.sl i
  cases e : slotAt ρ i with
  | no => rw [e] at g; exact g.elim
  | le t => rw [e] at g; exact g.elim
  | sh t =>
    rw [e] at g q
    obtain ⟨q0, v, ev, r⟩ := q
    exact ⟨v, ev, g v H O Post.refl ⟨r, en⟩⟩
  | fz t =>
    rw [e] at g q
    obtain ⟨q0, v, ev, r⟩ := q
    exact ⟨v, ev, g v H O Post.refl ⟨r, en⟩⟩
  | ow bb t =>
    rw [e] at g
    obtain ⟨a, ea, ev, r⟩ := en.ow e
    have g : Go TB C Wx (kdV X.K TB σ) H W O ρ (.ok ⟨t, .s⟩ (put ρ i (cond bb (.fz t) (.sh t)))) Q := g
    obtain ⟨k1, k2, k3⟩ := en.leak (s := cond bb (.fz t) (.sh t)) e ea rfl
    exact ⟨_, ev, g _ H _ k3 ⟨k2, k1⟩⟩
theorem r_pk {i : Nat} {x : Str} (hN : X.N[i]? = some x) (hv : Vis X.env.scope x) (hd : (x == ("__debug__" : Str)) = false) (hcd : (x == ("__classdict__" : Str)) = false) : PE X (.Name x pos) (tE X.K TB C Wx (rdP i)) := by
  refine (pe_var hN hv hd hcd).mono fun σ H Q g => ?_
  obtain ⟨W, O, ρ, en, g⟩ := g
  have g : Go TB C Wx (kdV X.K TB σ) H W O ρ (rdP1 i ρ (slotAt ρ i)) Q := g
  have q := en.sl i
  cases e : slotAt ρ i with
  | no => rw [e] at g; exact g.elim
  | sh t =>
    rw [e] at g q
    obtain ⟨q0, v, ev, r⟩ := q
    exact ⟨v, ev, g v H O Post.refl ⟨r, en⟩⟩
  | fz t =>
    rw [e] at g q
    obtain ⟨q0, v, ev, r⟩ := q
    exact ⟨v, ev, g v H O Post.refl ⟨r, en⟩⟩
  | ow bb t =>
    rw [e] at g q
    obtain ⟨ad, q0, ev, r⟩ := q
    exact ⟨.ref ad, ev, g _ H O Post.refl ⟨ev, by rw [e]; nofun, en⟩⟩
  | le t =>
    rw [e] at g q
    obtain ⟨ad, q0, ev, r⟩ := q
    exact ⟨.ref ad, ev, g _ H O Post.refl ⟨ev, by rw [e]; nofun, en⟩⟩
theorem cK_rep {K : PySem.W.Frag} {σ : L2.St} {H : Hp} {Q : VK} {t : T} {v : V} (h : ∀ N, Rep K H N t v) (g : tE K TB C Wx (cK t) σ H Q) : Q v H := by
  obtain ⟨W, O, ρ, en, g⟩ := g
  exact g v H O Post.refl ⟨h _, en⟩
theorem r_int {i : Int} {j} : PE X (.Constant (.int i) j pos) (tE X.K TB C Wx (cK (.int i))) := pe_int.mono fun σ H Q g => cK_rep (fun _ => .int i) g
theorem r_bl {i : Bool} {j} : PE X (.Constant (.bool i) j pos) (tE X.K TB C Wx (cK (.bl i))) := pe_bl.mono fun σ H Q g => cK_rep (fun _ => .bl i) g
theorem r_non {j} : PE X (.Constant .none j pos) (tE X.K TB C Wx (cK .non)) := pe_non.mono fun σ H Q g => cK_rep (fun _ => .non) g
theorem r_str {z : List Nat} {j} : PE X (.Constant (.str (toStr z)) j pos) (tE X.K TB C Wx (cK (.str z))) := pe_str.mono fun σ H Q g => cK_rep (fun _ => .str z) g
/-- a module's constant -/
theorem r_glob {x : Str} {u : Value} {v : V} {t : T} (hg : Gl X x) (hm : X.mg x = some u) (r : RelV v u) (hd : (x == ("__debug__" : Str)) = false) (h : ∀ H N, Rep X.K H N t v) : PE X (.Name x pos) (tE X.K TB C Wx (cK t)) :=
  (pe_glob hg hm r hd).mono fun σ H Q g => cK_rep (fun N => h H N) g
/-! ### and, or, not, if as values -/
theorem r_and {rest : List Expr} (ha : PE X a (tE X.K TB C Wx ra)) (hb : PE X (.BoolOp .And (b :: rest) pos) (tE X.K TB C Wx rb)) : PE X (.BoolOp .And (a :: b :: rest) pos) (tE X.K TB C Wx (andK ra rb)) := by
  refine (pe_and ha hb).mono fun σ H Q g => ?_
  refine one g fun W O ρ x v H2 en rx g => ?_
  cases e : val ρ x with
  | bl r =>
    rw [e] at rx g
    refine ⟨r, rx.bl, ?_⟩
    cases r with
    | true => exact ⟨W, O, ρ, en, g⟩
    | false => exact g.resB en
  | _ => rw [e] at g; exact g.elim
theorem r_or {rest : List Expr} (ha : PE X a (tE X.K TB C Wx ra)) (hb : PE X (.BoolOp .Or (b :: rest) pos) (tE X.K TB C Wx rb)) : PE X (.BoolOp .Or (a :: b :: rest) pos) (tE X.K TB C Wx (orK ra rb)) := by
  refine (pe_or ha hb).mono fun σ H Q g => ?_
  refine one g fun W O ρ x v H2 en rx g => ?_
  cases e : val ρ x with
  | bl r =>
    rw [e] at rx g
    refine ⟨r, rx.bl, ?_⟩
    cases r with
    | false => exact ⟨W, O, ρ, en, g⟩
    | true => exact g.resB en
  | _ => rw [e] at g; exact g.elim
theorem r_nv (ha : PE X a (tE X.K TB C Wx ra)) : PE X (.UnaryOp .Not a pos) (tE X.K TB C Wx (nvK ra)) := by
  refine ⟨fun pins s σ H Q I h => ?_⟩
  have hh := one (ra := ra) (Rr := fun v H1 => rTru X.K v H1 fun b H2 => Q (.bl (!b)) H2) h fun W O ρ x v H2 en rx g => by
    obtain ⟨r, e, q⟩ := Go.okB en g
    cases e2 : (val ρ x).tru with
    | none => rw [e2] at e; cases e
    | some b =>
      rw [e2] at e
      cases e
      exact ⟨_, _, b, rx, e2, q⟩
  refine UnaryOp_ (thn (ha.run pins s σ H _ I hh) fun v s1 ⟨x, H1, I1, r1, q1⟩ => ?_)
  exact not_of (thn (ok_tru pins s1 σ H1 x v _ I1 r1 q1) fun b s2 ⟨H2, I2, q2⟩ => ⟨.bl (!b), H2, I2, rfl, q2⟩)
/-! ### tests -/
variable {ta tb : Env → R Bool}
/-- one test, then the rest -/
theorem oneT {K : PySem.W.Frag} {σ : L2.St} {H : Hp} {α β : Type} {k' : Kd K σ α β} {γ : Type} {ra : Env → R γ} {f : γ → Env → R α} {Q : β → Hp → Prop} {Rr : γ → Hp → Prop} (g : tR TB C Wx k' (fun ρ => (ra ρ).bind f) H Q)
    (h : ∀ W O ρ x H1, EnvRep K TB H1 W O σ ρ → Go TB C Wx k' H1 W O ρ (f x ρ) Q → Rr x H1) : tR TB C Wx (kdP K TB σ γ) ra H Rr := by
  obtain ⟨W, O, ρ, en, g⟩ := g
  refine ⟨W, O, ρ, en, Go.first (k := kdP K TB σ γ) g fun x ρ1 v H1 O1 e p vp g1 => ?_⟩
  obtain ⟨e1, en1⟩ := vp
  subst e1
  exact h W O1 ρ1 v H1 en1 g1
theorem r_tv (hp : ∀ whole, PySem.isTrue a X.env whole = (do let v ← whole; standAt a.pos; holding [v] (truthy v))) (ha : PE X a (tE X.K TB C Wx ra)) : PT X a (tT X.K TB C Wx (tvK ra)) := by
  refine ⟨fun pins s σ H Q I h => ?_⟩
  have hh := one (ra := ra) (Rr := fun v H1 => rTru X.K v H1 Q) h fun W O ρ x v H2 en rx g => by
    cases e2 : (val ρ x).tru with
    | none =>
      have g : Go TB C Wx (kdP X.K TB σ Bool) H2 W O ρ (ofOpt (val ρ x).tru ρ) Q := g
      rw [e2] at g; exact g.elim
    | some b =>
      have g : Go TB C Wx (kdP X.K TB σ Bool) H2 W O ρ (ofOpt (val ρ x).tru ρ) Q := g
      rw [e2] at g
      exact ⟨_, _, b, rx, e2, g b H2 O Post.refl ⟨rfl, en⟩⟩
  refine isTrue_plain (thn (ha.run pins s σ H _ I hh) fun v s1 ⟨x, H1, I1, r1, q1⟩ => ?_) (hp _)
  exact ok_tru pins s1 σ H1 x v Q I1 r1 q1
theorem r_tcmp {op : CmpOp} {r : EV} (h : PC X op a b (tE X.K TB C Wx r)) (h1 : behindInMarks op b = false) : PT X (.Compare a [op] [b] pos) (tT X.K TB C Wx (tvK r)) := by
  refine ⟨fun pins s σ H Q I hw => ?_⟩
  have hh := one (ra := r) (Rr := fun v H1 => rTru X.K v H1 Q) hw fun W O ρ x v H2 en rx g => by
    have g : Go TB C Wx (kdP X.K TB σ Bool) H2 W O ρ (ofOpt (val ρ x).tru ρ) Q := g
    cases e2 : (val ρ x).tru with
    | none => rw [e2] at g; exact g.elim
    | some b =>
      rw [e2] at g
      exact ⟨_, _, b, rx, e2, g b H2 O Post.refl ⟨rfl, en⟩⟩
  refine wpAny_isTrue_Compare1 (thn (h.run pins s σ H _ I hh) fun v s1 h1 => thn h1 fun u s2 h2 => thn h2 fun c s3 ⟨x, H1, I1, r1, q1⟩ => ?_) h1
  exact ok_tru pins s3 σ H1 x c Q I1 r1 q1
theorem r_tnt (ha : PT X a (tT X.K TB C Wx ta)) : PT X (.UnaryOp .Not a pos) (tT X.K TB C Wx (ntK ta)) := by
  refine (pt_not ha).mono fun σ H Q g => ?_
  refine oneT g fun W O ρ x H1 en g => ?_
  exact g (!x) H1 O Post.refl ⟨rfl, en⟩
theorem r_tand {rest : List Expr} (ha : PT X a (tT X.K TB C Wx ta)) (hb : PW X (.BoolOp .And (b :: rest) pos) (tT X.K TB C Wx tb)) : PW X (.BoolOp .And (a :: b :: rest) pos) (tT X.K TB C Wx (tandK ta tb)) := by
  refine (pw_and ha hb).mono fun σ H Q g => ?_
  refine oneT g fun W O ρ x H1 en g => ?_
  cases x with
  | true => rw [if_pos rfl]; exact ⟨W, O, ρ, en, g⟩
  | false => rw [if_neg (by decide)]; exact g false H1 O Post.refl ⟨rfl, en⟩
theorem r_tor {rest : List Expr} (ha : PT X a (tT X.K TB C Wx ta)) (hb : PW X (.BoolOp .Or (b :: rest) pos) (tT X.K TB C Wx tb)) : PW X (.BoolOp .Or (a :: b :: rest) pos) (tT X.K TB C Wx (torK ta tb)) := by
  refine (pw_or ha hb).mono fun σ H Q g => ?_
  refine oneT g fun W O ρ x H1 en g => ?_
  cases x with
  | false => rw [if_neg (by decide)]; exact ⟨W, O, ρ, en, g⟩
  | true => rw [if_pos rfl]; exact g true H1 O Post.refl ⟨rfl, en⟩
theorem r_ite (hc : PT X c (tT X.K TB C Wx ta)) (ha : PE X a (tE X.K TB C Wx ra)) (hb : PE X b (tE X.K TB C Wx rb)) : PE X (.IfExp c a b pos) (tE X.K TB C Wx (iteK ta ra rb)) := by
  refine (pe_ifExp hc ha hb).mono fun σ H Q g => ?_
  refine oneT g fun W O ρ x H1 en g => ?_
  cases x with
  | true => rw [if_pos rfl]; exact ⟨W, O, ρ, en, g⟩
  | false => rw [if_neg (by decide)]; exact ⟨W, O, ρ, en, g⟩
/-! ### a[i] -/
theorem r_ix (hu : X.A.units + 1 < cLine) (ha : PE X a (tE X.K TB C Wx ra)) (hb : PE X b (tE X.K TB C Wx rb)) (hs : PlainIx b) : PE X (.Subscript a b pos) (tE X.K TB C Wx (ixK ra rb)) := by
  refine (pe_ix (ok_ixA hu) ha hb hs).mono fun σ H Q g => ?_
  refine two g fun W O ρ x y v u H2 en rx ry g => ?_
  cases e : ixT (val ρ x) (val ρ y) with
  | none =>
    rw [e] at g
    exact g.elim
  | some r =>
    rw [e] at g
    have g : Go TB C Wx (kdV X.K TB σ) H2 W O ρ (.ok ⟨r, .s⟩ ρ) Q := g
    exact ⟨_, _, _, r, rx, ry, e, g.res en⟩
/-! ### several values -/
theorem VL.app {K : PySem.W.Frag} {H : Hp} {N : Addr → Prop} {σ : L2.St} {ρ : Env} {ts : List T} {vs : List V} {l : List TK} {ws : List V} {fr : List Addr} (r : Reps K H N ts vs) (h : VL K H N σ ρ l ws fr) : VL K H N σ ρ (shared ts ++ l) (vs ++ ws) fr := by
  induction ts generalizing vs with
  | nil => cases r; exact h
  | cons t ts ih =>
    cases r with
    | cons a b => exact .sh a (ih b)
theorem VL.ng {K : PySem.W.Frag} {H : Hp} {N : Addr → Prop} {σ : L2.St} {ρ : Env} {l : List TK} {ws : List V} {fr : List Addr} (h : VL K H N σ ρ l ws fr) : l.length = ws.length := by
  induction h with
  | nil => rfl
  | sh _ _ ih => simp [ih]
  | fr _ _ ih => simp [ih]
  | pk _ _ _ ih => simp [ih]
theorem uni_nil {W : Addr → Prop} : ∀ b, uni W [] b → W b := fun b q => q.elim id fun z => by cases z
theorem r_nil : PA X [] (tA X.K TB C Wx nilK) := pa_nil.mono fun σ H Q g => by
  obtain ⟨W, O, ρ, en, g⟩ := g
  exact g [] H O Post.refl ⟨[], ⟨.nil, (fun _ z => by cases z), (fun _ z => by cases z), en.drop uni_nil, .nil⟩⟩
theorem uni_plus {W : Addr → Prop} {a : Addr} {fr : List Addr} : ∀ b, uni W (a :: fr) b → uni (plus W a) fr b := fun b q => by
  rcases q with q | q
  · exact .inl (.inl q)
  · rcases List.mem_cons.mp q with q | q
    · exact .inl (.inr q)
    · exact .inr q
/-- what was shared ahead, behind it -/
theorem rep_uni {K : PySem.W.Frag} {σ : L2.St} {H1 H2 : Hp} {W W1 : Addr → Prop} {O1 O2 : OA} {ρ1 ρ2 : Env} {l : List TK} {vs : List V} {fr : List Addr} (p : Post H1 O1 ρ1 H2 O2 ρ2) (en : EnvRep K TB H1 W O1 σ ρ1) (vp : VPs K TB (nw H1 O1 ρ1) H2 W1 O2 σ ρ2 l vs fr) :
    ∀ b, NG (uni W fr) O2 b → NG W O1 b ∨ nn H1 b := fun b q => by
  rcases q with (q | q) | ⟨i, q⟩
  · exact .inl (.inl q)
  · rcases vp.new b q with z | z
    · exact .inr z
    · exact .inl (ow_ng z)
  · exact .inl (.inr ⟨i, p.own i b q⟩)
theorem sem_cons {K : PySem.W.Frag} {σ : L2.St} {H : Hp} {Q : List V → Hp → Prop} {ra : EV} {rl : EVs} (g : tA K TB C Wx (consK ra rl) σ H Q) : tCons (tE K TB C Wx ra) (tA K TB C Wx rl) σ H Q := by
  obtain ⟨W, O, ρ, en, g⟩ := g
  refine ⟨W, O, ρ, en, Go.first (k := kdV K TB σ) g fun x ρ1 v H1 O1 e p vp g1 => ?_⟩
  have vp : VPost K TB (nw H O ρ) H1 W O1 σ ρ1 x v := vp
  refine ⟨_, O1, ρ1, vp.envH, Go.first (k := kdL K TB σ) (g1.shift Post.refl heldW_le) fun l ρ2 vs H2 O2 e2 p2 vp2 _ => ?_⟩
  obtain ⟨fr, vp2⟩ := vp2
  have g2 : Go TB C Wx (kdL K TB σ) H W O ρ ((ra ρ).bind fun x ρ => (rl ρ).bind fun l ρ => .ok (x :: l) ρ) Q := g
  rw [e] at g2
  have g2 : Go TB C Wx (kdL K TB σ) H W O ρ ((rl ρ1).bind fun l ρ => .ok (x :: l) ρ) Q := g2
  rw [e2] at g2
  have g3 : Go TB C Wx (kdL K TB σ) H W O ρ (.ok (x :: l) ρ2) Q := g2
  refine g3 (v :: vs) H2 O2 (p.trans p2) ?_
  have new2 : ∀ b ∈ fr, nw H O ρ b := fun b m => p.nw (vp2.new b m)
  obtain ⟨t, kk⟩ := x
  cases kk with
  | s =>
    have vp2 : VPs K TB (nw H1 O1 ρ1) H2 W O2 σ ρ2 l vs fr := vp2
    refine ⟨fr, ⟨vp2.nd, new2, vp2.ng, vp2.env, .sh (vp.1.keep (fun b o eb n z => p2.keep b o eb (fun q => n (ow_ng q)) z) (p2.tups vp.2) (rep_uni p2 vp.2 vp2)) vp2.vl⟩⟩
  | p i =>
    have vp2 : VPs K TB (nw H1 O1 ρ1) H2 W O2 σ ρ2 l vs fr := vp2
    exact ⟨fr, ⟨vp2.nd, new2, vp2.ng, vp2.env, .pk vp.1 (p2.ne i vp.2.1) vp2.vl⟩⟩
  | f =>
    obtain ⟨a', rfl, hnw, ng, r, en1⟩ := vp
    have vp2 : VPs K TB (nw H1 O1 ρ1) H2 (plus W a') O2 σ ρ2 l vs fr := vp2
    have na : a' ∉ fr := fun m => vp2.ng a' m (.inl (.inr rfl))
    refine ⟨a' :: fr, ⟨List.nodup_cons.mpr ⟨na, vp2.nd⟩, fun b m => ?_, fun b m => ?_, vp2.env.drop uni_plus, .fr ?_ (vp2.vl.weak (ng_mono uni_plus))⟩⟩
    · rcases List.mem_cons.mp m with m | m
      · subst m; exact hnw
      · exact new2 b m
    · rcases List.mem_cons.mp m with m | m
      · subst m; exact fun q => ng (ng_own p2 _ q)
      · exact fun q => vp2.ng b m (ng_mono (fun _ q => .inl q) b q)
    · have k : ∀ b o, H1 b = some o → ¬ NG (plus W a') O1 b → nt o → H2 b = some o := fun b o eb n z => p2.keep b o eb (fun q => n (ow_ng q)) z
      have nb : ∀ b, NG (uni W (a' :: fr)) O2 b → NG (plus W a') O1 b ∨ nn H1 b := fun b q => rep_uni p2 en1 vp2 b (ng_mono uni_plus b q)
      rcases r with ⟨ts, ws, e1, h, r⟩ | ⟨ts, ws, e1, h, r⟩ | ⟨ts, ws, e1, h, r⟩
      · exact .inl ⟨ts, ws, e1, p2.keep _ _ h (fun q => ng (ow_ng q)) (fun _ z => by cases z), r.keep k (p2.tups en1) nb⟩
      · exact .inr (.inl ⟨ts, ws, e1, p2.keep _ _ h (fun q => ng (ow_ng q)) (fun _ z => by cases z), r.keep k (p2.tups en1) nb⟩)
      · exact .inr (.inr ⟨ts, ws, e1, p2.keep _ _ h (fun q => ng (ow_ng q)) (fun _ z => by cases z), r⟩)
theorem r_cons {es : List Expr} {rl : EVs} (ha : PE X a (tE X.K TB C Wx ra)) (hr : PA X es (tA X.K TB C Wx rl)) (hs : starEach (a :: es) X.env = (false, eval a X.env) :: starEach es X.env) : PA X (a :: es) (tA X.K TB C Wx (consK ra rl)) :=
  (pa_cons ha hr hs).mono fun σ H Q g => sem_cons g
theorem seq_rep {K : PySem.W.Frag} {H : Hp} {N : Addr → Prop} {t : T} {v : V} {ts : List T} (h : RRep K H N t v) (e : t.seq = some ts) : ∃ a vs, v = .ref a ∧ (SqT K H a vs ∨ SqL K H a vs) ∧ Reps K H N ts vs := by
  cases t with
  | lst l => cases e; obtain ⟨a, vs, e, h, r⟩ := h.lst; exact ⟨a, vs, e, .inr (SqL.of h), r⟩
  | tup l => cases e; obtain ⟨a, vs, e, h, r⟩ := h.tup; exact ⟨a, vs, e, .inl h, r⟩
  | _ => cases e
theorem r_star {es : List Expr} {rl : EVs} {p : Pos} (ha : PE X a (tE X.K TB C Wx ra)) (hr : PA X es (tA X.K TB C Wx rl)) (hs : starEach (.Starred a p :: es) X.env = (true, eval a X.env) :: starEach es X.env) : PA X (.Starred a p :: es) (tA X.K TB C Wx (starK ra rl)) := by
  refine (StX.pa_star ha hr hs).mono fun σ H Q g => ?_
  refine one g fun W O ρ x v H1 en rx g => ?_
  cases e : (val ρ x).seq with
  | none =>
    rw [e] at g
    exact g.elim
  | some ts =>
    rw [e] at g
    have g : Go TB C Wx (kdL X.K TB σ) H1 W O ρ ((rl ρ).bind fun l ρ => R.ok (shared ts ++ l) ρ) Q := g
    obtain ⟨p, vs, ev, hq, r⟩ := seq_rep rx e
    refine ⟨p, vs, ev, hq, W, O, ρ, en, Go.first (k := kdL X.K TB σ) g fun l ρ2 ws H2 O2 e2 p2 vp2 _ => ?_⟩
    obtain ⟨fr, vp2⟩ := vp2
    have g2 : Go TB C Wx (kdL X.K TB σ) H1 W O ρ ((rl ρ).bind fun l ρ => R.ok (shared ts ++ l) ρ) Q := g
    rw [e2] at g2
    have g3 : Go TB C Wx (kdL X.K TB σ) H1 W O ρ (.ok (shared ts ++ l) ρ2) Q := g2
    exact g3 (vs ++ ws) H2 O2 p2 ⟨fr, ⟨vp2.nd, vp2.new, vp2.ng, vp2.env, .app (r.keep (fun b o eb n z => p2.keep b o eb (fun q => n (ow_ng q)) z) (p2.tups en) (rep_uni p2 en vp2)) vp2.vl⟩⟩
end
end PB
end

section
set_option Elab.async false
set_option linter.all false
set_option maxRecDepth 100000
set_option maxHeartbeats 4000000
/-! Sound10: displays, slices, built-ins, methods, mutators. -/
namespace PB
open PySem PySem.Spec PyProof.Rows L2
section
variable {K : PySem.W.Frag} {TB : List (Addr × Str)} {C : CT} {Wx : WX} {σ : L2.St} {H H' : Hp} {W : Addr → Prop} {O O' : OA} {ρ ρ' : Env}
variable {α β : Type} {k' : Kd K σ α β}
theorem giv_cons {x : TK} {l : List TK} {ts : List T} (e : giv (x :: l) = some ts) : ∃ t r, giv1 x = some t ∧ giv l = some r ∧ ts = t :: r := by
  obtain ⟨t, e1, e2⟩ := optBind_some (show optBind (giv1 x) (fun t => optBind (giv l) fun l => some (t :: l)) = some ts from e)
  obtain ⟨r, e3, e4⟩ := optBind_some e2
  cases e4
  exact ⟨t, r, e1, e3, rfl⟩
/-- values given away: all shared from now on -/
theorem VL.giv {N : Addr → Prop} {l : List TK} {vs : List V} {fr : List Addr} (h : VL K H N σ ρ l vs fr) {N' : Addr → Prop} (hn : ∀ b, N' b → N b) (hf : ∀ a ∈ fr, ¬ N' a) : ∀ {ts : List T}, giv l = some ts → Reps K H N' ts vs := by
  induction h with
  | nil => intro ts e; cases e; exact .nil
  | @sh t v l vs fr r _ ih =>
    intro ts e
    obtain ⟨t', ts', e1, e2, rfl⟩ := giv_cons e
    cases e1
    exact .cons (r.weak hn) (ih hf e2)
  | @fr t a l vs fr r _ ih =>
    intro ts e
    obtain ⟨t', ts', e1, e2, rfl⟩ := giv_cons e
    cases e1
    exact .cons ((r.weak hn).leak (hf a List.mem_cons_self)) (ih (fun b m => hf b (List.mem_cons_of_mem _ m)) e2)
  | @pk t i v l vs fr _ _ _ ih =>
    intro ts e
    obtain ⟨t', ts', e1, e2, rfl⟩ := giv_cons e
    cases e1
theorem uni_in {W : Addr → Prop} {fr : List Addr} : ∀ b, NG W O b → NG (uni W fr) O b := fun b q => q.imp .inl id
theorem VPs.giv {Nw : Addr → Prop} {l : List TK} {vs : List V} {fr : List Addr} (h : VPs K TB Nw H' W O' σ ρ' l vs fr) {ts : List T} (e : giv l = some ts) : Reps K H' (NG W O') ts vs :=
  h.vl.giv uni_in h.ng e
theorem VL.reads {N : Addr → Prop} {l : List TK} {vs : List V} {fr : List Addr} (h : VL K H N σ ρ l vs fr) {W : Addr → Prop} (en : EnvRep K TB H W O σ ρ) (hn : ∀ b, NG W O b → N b) : RReps K H (NG W O) (trees ρ l) vs := by
  induction h with
  | nil => exact .nil
  | sh r _ ih => exact .cons (RRep.of (r.weak hn)).un ih
  | fr r _ ih => exact .cons ((RRep.own r).weak hn).un ih
  | pk a b _ ih => exact .cons (treeOf_read en a b) ih
theorem VPs.env0 {Nw : Addr → Prop} {l : List TK} {vs : List V} {fr : List Addr} (h : VPs K TB Nw H' W O' σ ρ' l vs fr) : EnvRep K TB H' W O' σ ρ' := h.env.drop fun _ q => .inl q
theorem VPs.reads {Nw : Addr → Prop} {l : List TK} {vs : List V} {fr : List Addr} (h : VPs K TB Nw H' W O' σ ρ' l vs fr) : RReps K H' (NG W O') (trees ρ' l) vs :=
  h.vl.reads h.env0 uni_in
/-- several values, then the rest -/
theorem sevl {rl : EVs} {f : List TK → Env → R α} {Q : β → Hp → Prop} {Rr : List V → Hp → Prop} (g : tR TB C Wx k' (fun ρ => (rl ρ).bind f) H Q)
    (h : ∀ Nw W O ρ l vs fr H1, VPs K TB Nw H1 W O σ ρ l vs fr → Go TB C Wx k' H1 W O ρ (f l ρ) Q → Rr vs H1) : tA K TB C Wx rl σ H Rr := by
  obtain ⟨W, O, ρ, en, g⟩ := g
  refine ⟨W, O, ρ, en, Go.first (k := kdL K TB σ) g fun l ρ1 vs H1 O1 e p vp g1 => ?_⟩
  obtain ⟨fr, vp⟩ := vp
  exact h (nw H O ρ) W O1 ρ1 l vs fr H1 vp g1
/-- a value, several, then the rest -/
theorem oneSevl {ra : EV} {rl : EVs} {c : TK → Env → Bool} {f : TK → List TK → Env → R α} {Q : β → Hp → Prop} {Rr : V → List V → Hp → Prop} {P : V → Hp → Prop} (g : tR TB C Wx k' (fun ρ => (ra ρ).bind fun x ρ => cond (c x ρ) ((rl ρ).bind fun l ρ => f x l ρ) .bad) H Q)
    (hc : ∀ N ρ x v H1, RRep K H1 N (val ρ x) v → c x ρ = true → P v H1)
    (h : ∀ Nw W O ρ x v l vs fr H1, VPs K TB Nw H1 W O σ ρ l vs fr → RRep K H1 (NG W O) (val ρ x) v → Go TB C Wx k' H1 W O ρ (f x l ρ) Q → Rr v vs H1) :
    tE K TB C Wx ra σ H fun v H1 => P v H1 ∧ tA K TB C Wx rl σ H1 fun vs H2 => Rr v vs H2 := by
  obtain ⟨W, O, ρ, en, g⟩ := g
  refine ⟨W, O, ρ, en, Go.first (k := kdV K TB σ) g fun x ρ1 v H1 O1 e p vp g1 => ?_⟩
  have vp : VPost K TB (nw H O ρ) H1 W O1 σ ρ1 x v := vp
  cases ec : c x ρ1 with
  | false =>
    rw [ec] at g1
    exact g1.elim
  | true =>
    rw [ec] at g1
    have g1 : Go TB C Wx k' H1 W O1 ρ1 ((rl ρ1).bind fun l ρ => f x l ρ) Q := g1
    refine ⟨hc _ _ _ _ _ vp.read ec, _, O1, ρ1, vp.envH, Go.first (k := kdL K TB σ) (g1.shift Post.refl heldW_le) fun l ρ2 vs H2 O2 e2 p2 vp2 _ => ?_⟩
    obtain ⟨fr, vp2⟩ := vp2
    have g2 := g1
    rw [e2] at g2
    have g3 : Go TB C Wx k' H1 W O1 ρ1 (f x l ρ2) Q := g2
    refine h (nw H1 O1 ρ1) W O2 ρ2 x v l vs fr H2 ⟨vp2.nd, vp2.new, fun a m q => vp2.ng a m (ng_mono heldW_le a q), vp2.env.drop (uni_mono heldW_le), vp2.vl.weak (ng_mono (uni_mono heldW_le))⟩ ?_ (g3.shift p2 fun _ q => q)
    exact vp.late p2 vp2.env0
end
section
variable {X : Cx} {TB : List (Addr × Str)} {C : CT} {Wx : WX} {a b c : Expr} {es : List Expr} {ra rb rc : EV} {rl : EVs} {pos : Pos}
/-! ### displays -/
/-- a tuple, its object known -/
def tTupF (t : TA) : TE := fun σ H Q => t σ H fun xs H1 => xs.length ≤ sizeLine ∧ ∀ (p : Addr) (o : Obj), H1 p = none → o.dict = none → Q (.ref p) (upd H1 p (.frz o (.tup xs)))
theorem pe_tupF {t : TA} {x1} (h : PA X es t) : PE X (.Tuple es x1 pos) (tTupF t) := by
  constructor
  intro pins s σ H Q I hq
  apply wpAny_Tuple_spliced
  apply thn (h.run pos pins s σ H _ I hq)
  rintro us s1 ⟨xs, H1, I1, r, z, q⟩
  have no : H1 s1.heap.objs.size = none := I1.hok.fresh (Nat.le_refl _)
  refine ⟨by rw [← r.length]; exact z, ?_⟩
  refine ⟨V.ref s1.heap.objs.size, _, I1.laid (o := .frz _ (.tup xs)) (t' := s1.toks) (fun b u e => Heap.get?_push_of_some _ e) (Nat.le_refl _) ⟨Heap.get?_push_size _ rfl, z, us, r, _, Heap.get?_push_size _ rfl, rfl, _, rfl⟩, rfl, q _ _ no rfl⟩
theorem r_tup {x1} (h : PA X es (tA X.K TB C Wx rl)) : PE X (.Tuple es x1 pos) (tE X.K TB C Wx (tupK rl)) := by
  refine (pe_tupF h).mono fun σ H Q g => ?_
  refine sevl g fun Nw W O ρ l vs fr H1 vp g => ?_
  cases e : giv l with
  | none => rw [e] at g; exact g.elim
  | some ts =>
    rw [e] at g
    have g : Go TB C Wx (kdV X.K TB σ) H1 W O ρ (cond (sized ts) (.ok ⟨.tpd ts, .s⟩ ρ) .bad) Q := g
    cases e2 : sized ts with
    | false => rw [e2] at g; exact g.elim
    | true =>
      rw [e2] at g
      have r := vp.giv e
      have q : Res X.K H1 (NG W O) ⟨.tpd ts, .s⟩ Q := Go.res vp.env0 g
      exact ⟨by rw [← r.length]; exact Nat.le_of_lt (sized_le e2), fun p o hp hd => q (.ref p) _ (Grow.upd hp) (.tpd upd_same hd (r.grow (Grow.upd hp)))⟩
theorem r_lst (h : PA X es (tA X.K TB C Wx rl)) : PE X (.List es pos) (tE X.K TB C Wx (lstK rl)) := by
  refine (pe_lst h).mono fun σ H Q g => ?_
  refine sevl g fun Nw W O ρ l vs fr H1 vp g => ?_
  cases e : giv l with
  | none => rw [e] at g; exact g.elim
  | some ts =>
    rw [e] at g
    have g : Go TB C Wx (kdV X.K TB σ) H1 W O ρ (cond (sized ts) (.ok ⟨.lst ts, .f⟩ ρ) .bad) Q := g
    cases e2 : sized ts with
    | false => rw [e2] at g; exact g.elim
    | true =>
      rw [e2] at g
      have r := vp.giv e
      have q : Res X.K H1 (NG W O) ⟨.lst ts, .f⟩ Q := Go.res vp.env0 g
      exact ⟨by rw [← r.length]; exact Nat.le_of_lt (sized_le e2), q.newL r⟩
/-- the pairs of a dict's display -/
def flatP : List (V × V) → List V
  | [] => []
  | (x, y) :: r => x :: y :: flatP r
structure Prs (X : Cx) (TB : List (Addr × Str)) (C : CT) (Wx : WX) (pos : Pos) (ks : List (Option Expr)) (vs : List Expr) (rl : EVs) (n : Nat) : Prop where
  ex : ∃ trs, PPs X pos ks vs trs ∧ ∀ σ H (Q : List (V × V) → Hp → Prop), tA X.K TB C Wx rl σ H (fun l H' => ∃ ps, l = flatP ps ∧ ps.length = n ∧ Q ps H') → tPairs trs σ H Q
theorem prs_nil : Prs X TB C Wx pos [] [] nilK 0 := ⟨[], pps_nil, fun σ H Q g => by
  obtain ⟨W, O, ρ, en, g⟩ := g
  obtain ⟨ps, e, l, q⟩ := g [] H O Post.refl ⟨[], ⟨.nil, (fun _ z => by cases z), (fun _ z => by cases z), en.drop uni_nil, .nil⟩⟩
  cases ps with
  | nil => exact q
  | cons p r => cases l⟩
theorem prs_cons {ks : List (Option Expr)} {vs : List Expr} {n : Nat} (ha : PE X a (tE X.K TB C Wx ra)) (hb : PE X b (tE X.K TB C Wx rb)) (hr : Prs X TB C Wx pos ks vs rl n) : Prs X TB C Wx pos (some a :: ks) (b :: vs) (consK ra (consK rb rl)) (n + 1) := by
  obtain ⟨trs, h, m⟩ := hr
  refine ⟨_, pps_cons ha hb h, fun σ H Q g => ?_⟩
  have g1 := sem_cons g
  obtain ⟨W, O, ρ, en, g1⟩ := g1
  refine ⟨W, O, ρ, en, ?_⟩
  cases e : ra ρ with
  | bad => rw [e] at g1; exact g1
  | exc c x => rw [e] at g1; exact g1
  | ok x ρ1 =>
    rw [e] at g1
    intro v H1 O1 p vp
    have g2 := sem_cons (g1 v H1 O1 p vp)
    obtain ⟨W2, O2, ρ2, en2, g2⟩ := g2
    refine ⟨W2, O2, ρ2, en2, ?_⟩
    cases e2 : rb ρ2 with
    | bad => rw [e2] at g2; exact g2
    | exc c x => rw [e2] at g2; exact g2
    | ok y ρ3 =>
      rw [e2] at g2
      intro u H2 O3 p2 vp2
      refine m σ H2 _ ?_
      obtain ⟨W4, O4, ρ4, en4, g4⟩ := g2 u H2 O3 p2 vp2
      refine ⟨W4, O4, ρ4, en4, ?_⟩
      cases e4 : rl ρ4 with
      | bad => rw [e4] at g4; exact g4
      | exc c x => rw [e4] at g4; exact g4
      | ok l ρ5 =>
        rw [e4] at g4
        intro vs H5 O5 p5 vp5
        obtain ⟨ps, ep, lp, q⟩ := g4 vs H5 O5 p5 vp5
        cases ps with
        | nil => cases ep
        | cons pr r =>
          obtain ⟨x', y'⟩ := pr
          have ep : v :: u :: vs = x' :: y' :: flatP r := ep
          injection ep with e1 ep
          injection ep with e2 e3
          subst e1 e2
          exact ⟨r, e3, Nat.succ.inj lp, q⟩
theorem RRep.ofRep {K : PySem.W.Frag} {H : Hp} {N : Addr → Prop} {t : T} {v : V} (h : Rep K H N t v) : RRep K H N t v := .inl h
theorem Reps.inv {K : PySem.W.Frag} {H : Hp} {N : Addr → Prop} {t : T} {ts : List T} {vs : List V} (h : Reps K H N (t :: ts) vs) : ∃ v r, vs = v :: r ∧ Rep K H N t v ∧ Reps K H N ts r := by
  cases h with
  | cons a b => exact ⟨_, _, rfl, a, b⟩
/-- what dOf makes, and what the display makes -/
theorem dOf_merge {K : PySem.W.Frag} {H : Hp} {N : Addr → Prop} : ∀ (n : Nat) {ts : List T} {vs : List V} {d0 d : List (T × T)} {k0 : List (Key × V)}, ts.length = 2 * n → Reps K H N ts vs → dOf ts d0 = some d → RepKV K H N d0 k0 → (k0.map (·.1)).Nodup →
    ∃ kvs : List (Key × V), (∃ ps, vs = flatP ps ∧ ps = kvs.map (fun kv => (kV kv.1, kv.2))) ∧ kvs.length = n ∧ RepKV K H N d (mergeK k0 kvs)
  | 0, ts, vs, d0, d, k0, hl, r, e, r0, nd => by
    cases ts with
    | nil =>
      cases r
      cases e
      exact ⟨[], ⟨[], rfl, rfl⟩, rfl, r0⟩
    | cons t ts => cases hl
  | n + 1, ts, vs, d0, d, k0, hl, r, e, r0, nd => by
    match ts, hl, e, r with
    | k :: x :: ts, hl, e, r =>
      obtain ⟨vk, vr, rfl, rk, r1⟩ := r.inv
      obtain ⟨vx, vs, rfl, rx, r2⟩ := r1.inv
      · · skip
          obtain ⟨c, e⟩ := cond_some (show cond (kindOk k d0) (dOf ts (dPut k x d0)) none = some d from e)
          obtain ⟨kk, hk⟩ := kindOk_key r0 c
          have ev := keyOf_kV hk (RRep.ofRep rk)
          subst ev
          have nd' : ((putK k0 kk vx).map (·.1)).Nodup := by
            unfold putK
            split
            · rename_i hh
              have : (k0.map fun kv => if kv.1 = kk then (kv.1, vx) else kv).map (·.1) = k0.map (·.1) := by
                rw [List.map_map]
                refine List.map_congr_left fun p _ => ?_
                show (if p.1 = kk then (p.1, vx) else p).1 = p.1
                split <;> rfl
              rw [this]; exact nd
            · rename_i hh
              rw [List.map_append, List.nodup_append]
              refine ⟨nd, by simp, ?_⟩
              intro y hy z hz
              simp at hz
              subst hz
              intro e
              subst e
              refine hh ?_
              rw [List.any_eq_true]
              obtain ⟨p, hp, e⟩ := List.mem_map.mp hy
              exact ⟨p, hp, decide_eq_true e⟩
          obtain ⟨kvs, ⟨ps, e1, e2⟩, e3, e4⟩ := dOf_merge n (by simp at hl; omega) r2 e (r0.put hk rx nd) nd'
          exact ⟨(kk, vx) :: kvs, ⟨(kV kk, vx) :: ps, by rw [e1]; rfl, by rw [e2]; rfl⟩, by simp [e3], e4⟩
theorem flatP_inj : ∀ {a b : List (V × V)}, flatP a = flatP b → a = b
  | [], [], _ => rfl
  | [], (x, y) :: r, h => by cases h
  | (x, y) :: r, [], h => by cases h
  | (x, y) :: r, (x', y') :: r', h => by
    have h : x :: y :: flatP r = x' :: y' :: flatP r' := h
    injection h with h1 h
    injection h with h2 h3
    rw [h1, h2, flatP_inj h3]
theorem flatP_len : ∀ (a : List (V × V)), (flatP a).length = 2 * a.length
  | [] => rfl
  | (x, y) :: r => by
    show (flatP r).length + 1 + 1 = 2 * (r.length + 1)
    rw [flatP_len r]; omega
theorem r_dct {ks : List (Option Expr)} {vs : List Expr} {n : Nat} (hp : Prs X TB C Wx pos ks vs rl n) (hn : ∀ ρ l ρ', rl ρ = .ok l ρ' → l.length = 2 * n) (hall : ks.all (·.isSome) = true) (hl : ks.length = vs.length) (h0 : ks ≠ []) (h15 : ks.length ≤ 15) (h15' : n ≤ 15) :
    PE X (.Dict ks vs pos) (tE X.K TB C Wx (dctK rl)) := by
  obtain ⟨trs, hp, m⟩ := hp
  refine (pe_disp hp hall hl h0 h15).mono fun σ H Q g => ?_
  intro p hp
  refine m σ _ _ ?_
  obtain ⟨W, O, ρ, en, g⟩ := g
  have gr : Grow H (upd H p (.dK [])) := Grow.upd hp
  have enp : EnvRep X.K TB (upd H p (.dK [])) (plus W p) O σ ρ := en.new gr hp upd_same (fun _ z => by cases z)
  have gp : Go TB C Wx (kdV X.K TB σ) (upd H p (.dK [])) (plus W p) O ρ (dctK rl ρ) Q := Go.shift (r := dctK rl ρ) g (Post.grow gr) fun _ q => .inl q
  unfold dctK at gp g
  refine ⟨plus W p, O, ρ, enp, Go.first (k := kdL X.K TB σ) gp fun l ρ1 vs H1 O1 e po vp g1 => ?_⟩
  obtain ⟨fr, vp⟩ := vp
  have hlen := hn _ _ _ e
  have g2 := g
  rw [e] at g2
  cases ed : (optBind (giv l) fun ts => dOf ts []) with
  | none =>
    simp only [R.bind] at g2
    rw [ed] at g2; exact g2.elim
  | some d =>
    simp only [R.bind] at g2
    rw [ed] at g2
    have g2 : Go TB C Wx (kdV X.K TB σ) H W O ρ (.ok ⟨.dct d, .f⟩ ρ1) Q := g2
    obtain ⟨ts, e1, e2⟩ := optBind_some ed
    have r := vp.giv e1
    have htl : ts.length = 2 * n := by rw [r.length, ← vp.vl.ng, hlen]
    obtain ⟨kvs, ⟨ps, e3, e4⟩, e5, e6⟩ := dOf_merge n htl r e2 .nil .nil
    have npO : ¬ Ow O ρ p := fun ⟨i, bb, t, q1, q2⟩ => by
      obtain ⟨o, ho⟩ := en.oth q1
      rw [hp] at ho; cases ho
    have hp1 : H1 p = some (.dK []) := po.keep _ _ upd_same npO (fun _ z => by cases z)
    refine ⟨ps, e3, by rw [e4, List.length_map, e5], hp1, kvs, e4, by omega, ?_⟩
    have pz : Post H O ρ H1 O1 ρ1 := (Post.grow gr).trans po
    have own0 : OwnRep X.K H1 (NG (plus W p) O1) (.dct []) p := .inr (.inl ⟨[], [], rfl, hp1, .nil⟩)
    have tab : ∀ P q, LamX.TabS H1 P q → LamX.TabS (upd H1 p (.dK (mergeK [] kvs))) P q := fun P q ⟨ps, h1, h2, h3⟩ => by
      have nP : P ≠ p := fun c => by subst c; rw [hp1] at h1; cases h1
      refine ⟨ps, by rw [upd_ne nP]; exact h1, h2, fun pos cv hc => ?_⟩
      obtain ⟨c, z1, z2⟩ := h3 pos cv hc
      refine ⟨c, z1, ?_⟩
      rw [upd_ne fun z => by subst z; rw [hp1] at z2; cases z2]
      exact z2
    have npw : NG (plus W p) O1 p := .inl (.inr rfl)
    have enH : EnvRep X.K TB (upd H1 p (.dK (mergeK [] kvs))) (plus W p) O1 σ ρ1 := by
      have e0 := vp.env0
      refine ⟨e0.len, fun i => ?_, e0.inj, e0.out, fun b w => ?_, fun q hq => tab _ _ (e0.tab q hq)⟩
      · have q := e0.sl i
        revert q
        cases slotAt ρ1 i with
        | no => exact id
        | sh t1 => rintro ⟨q0, v, ev, r1⟩; exact ⟨q0, v, ev, r1.upd npw .upd hp1 (.inr (.inl ⟨_, rfl⟩))⟩
        | fz t1 => rintro ⟨q0, v, ev, r1⟩; exact ⟨q0, v, ev, r1.upd npw .upd hp1 (.inr (.inl ⟨_, rfl⟩))⟩
        | ow b1 t1 =>
          rintro ⟨a1, q0, ev, r1⟩
          have nb : a1 ≠ p := fun z => e0.out i a1 q0 (.inr z)
          refine ⟨a1, q0, ev, ?_⟩
          rcases r1 with ⟨ts, vs, e, hh, rr⟩ | ⟨ts, vs, e, hh, rr⟩ | ⟨ts, vs, e, hh, rr⟩
          · exact .inl ⟨ts, vs, e, by rw [upd_ne nb]; exact hh, rr.upd npw .upd hp1 (.inr (.inl ⟨_, rfl⟩))⟩
          · exact .inr (.inl ⟨ts, vs, e, by rw [upd_ne nb]; exact hh, rr.upd npw .upd hp1 (.inr (.inl ⟨_, rfl⟩))⟩)
          · exact .inr (.inr ⟨ts, vs, e, by rw [upd_ne nb]; exact hh, rr⟩)
        | le t1 =>
          rintro ⟨a1, q0, ev, r1⟩
          have nb : a1 ≠ p := fun z => e0.out i a1 q0 (.inr z)
          refine ⟨a1, q0, ev, ?_⟩
          rcases r1 with ⟨ts, vs, e, hh, rr⟩ | ⟨ts, vs, e, hh, rr⟩ | ⟨ts, vs, e, hh, rr⟩
          · exact .inl ⟨ts, vs, e, by rw [upd_ne nb]; exact hh, rr.upd npw .upd hp1 (.inr (.inl ⟨_, rfl⟩))⟩
          · exact .inr (.inl ⟨ts, vs, e, by rw [upd_ne nb]; exact hh, rr.upd npw .upd hp1 (.inr (.inl ⟨_, rfl⟩))⟩)
          · exact .inr (.inr ⟨ts, vs, e, by rw [upd_ne nb]; exact hh, rr⟩)
      · by_cases c : b = p
        · subst c; exact ⟨_, upd_same, fun _ z => by cases z⟩
        · rw [upd_ne c]; exact e0.wt b w
    have pz2 : Post H O ρ (upd H1 p (.dK (mergeK [] kvs))) O1 ρ1 := by
      refine ⟨pz.own, fun b o q n z => ?_, fun b o q z => ?_, pz.ne, pz.ows, pz.ms, pz.le⟩
      · have nb : b ≠ p := fun c => by subst c; rw [hp] at q; cases q
        rw [upd_ne nb]; exact pz.keep b o q n z
      · have nb : b ≠ p := fun c => by subst c; rw [hp] at q; cases q
        rw [upd_ne nb]; exact pz.per b o q z
    refine g2 (.ref p) _ O1 pz2 ⟨p, rfl, .inl (nn.of hp), ?_, .wrD npw hp1 e6, enH⟩
    intro q
    rcases q with q | ⟨i, q⟩
    · obtain ⟨o, ho, _⟩ := en.wt p q
      rw [hp] at ho; cases ho
    · obtain ⟨o, ho⟩ := en.oth (po.own i p q)
      rw [hp] at ho; cases ho
theorem r_dct0 : PE X (.Dict [] [] pos) (tE X.K TB C Wx (dctK nilK)) := by
  refine pe_dnewK.mono fun σ H Q g => ?_
  obtain ⟨W, O, ρ, en, g⟩ := g
  have g : Go TB C Wx (kdV X.K TB σ) H W O ρ (.ok ⟨.dct [], .f⟩ ρ) Q := g
  have q : Res X.K H (NG W O) ⟨.dct [], .f⟩ Q := Go.res en g
  exact q.newD .nil
end
end PB
end

section
set_option Elab.async false
set_option linter.all false
set_option maxRecDepth 100000
set_option maxHeartbeats 4000000
/-! Sound11: slices, built-ins, methods, mutators. -/
namespace PB
open PySem PySem.Spec PyProof.Rows L2
section
variable {X : Cx} {TB : List (Addr × Str)} {C : CT} {Wx : WX} {a b c e : Expr} {es : List Expr} {ra rb rc : EV} {rl : EVs} {pos p : Pos} {x : Str}
/-! ### slices -/
theorem r_no : PO X none (tO X.K TB C Wx noK) := ⟨fun pins s σ H Q I g => by
  obtain ⟨W, O, ρ, en, g⟩ := g
  exact po_none.run pins s σ H Q I (g none H O Post.refl ⟨rfl, en⟩)⟩
theorem r_sm (ha : PE X a (tE X.K TB C Wx ra)) : PO X (some a) (tO X.K TB C Wx (smK ra)) := by
  refine (po_some ha).mono fun σ H Q g => ?_
  refine one g fun W O ρ x v H1 en rx g => ?_
  have g : Go TB C Wx (kdP X.K TB σ (Option Int)) H1 W O ρ (ofOpt (smT (val ρ x)) ρ) Q := g
  cases e : val ρ x with
  | int i =>
    rw [e] at g rx
    exact ⟨i, rx.int, g (some i) H1 O Post.refl ⟨rfl, en⟩⟩
  | _ => rw [e] at g; exact g.elim
theorem r_sl {lo hi : Option Expr} {rlo rhi : Env → R (Option Int)} {p2 : Pos} (ha : PE X a (tE X.K TB C Wx ra)) (hl : PO X lo (tO X.K TB C Wx rlo)) (hh : PO X hi (tO X.K TB C Wx rhi)) :
    PE X (.Subscript a (.Slice lo hi none p2) pos) (tE X.K TB C Wx (slK ra rlo rhi)) := by
  refine (pe_slice ok_sl ha hl hh).mono fun σ H Q g => ?_
  obtain ⟨W, O, ρ, en, g⟩ := g
  refine ⟨W, O, ρ, en, Go.first (k := kdV X.K TB σ) g fun x ρ1 v H1 O1 e p vp g1 => ?_⟩
  have vp : VPost X.K TB (nw H O ρ) H1 W O1 σ ρ1 x v := vp
  refine ⟨_, O1, ρ1, vp.envH, Go.first (k := kdP X.K TB σ (Option Int)) (g1.shift Post.refl heldW_le) fun l ρ2 l' H2 O2 e2 p2 vp2 _ => ?_⟩
  obtain ⟨el, en2⟩ := vp2
  subst el
  rw [e2] at g1
  have g2 : Go TB C Wx (kdV X.K TB σ) H1 W O1 ρ1 ((rhi ρ2).bind fun h ρ => ofOpt (slT (val ρ x) l' h) ρ) Q := g1
  refine ⟨_, O2, ρ2, en2, Go.first (k := kdP X.K TB σ (Option Int)) ((g2.shift p2 fun _ q => q).shift Post.refl heldW_le) fun h ρ3 h' H3 O3 e3 p3 vp3 _ => ?_⟩
  obtain ⟨eh, en3⟩ := vp3
  subst eh
  rw [e3] at g2
  have g3 : Go TB C Wx (kdV X.K TB σ) H1 W O1 ρ1 (ofOpt (slT (val ρ3 x) l' h') ρ3) Q := g2
  have g4 := g3.shift (p2.trans p3) (W1 := W) fun _ q => q
  have en3' := en3.drop (heldW_le (W := W) (x := x) (v := v))
  obtain ⟨r, er, q⟩ := Go.ofOpt en3' g4
  exact ⟨_, _, r, vp.late (p2.trans p3) en3, er, q⟩
theorem r_slr {k : Nat} {p1 p2 p3 : Pos} (ha : PE X a (tE X.K TB C Wx ra)) : PE X (.Subscript a (.Slice none none (some (.UnaryOp .USub (.Constant (.int 1) k p1) p2)) p3) pos) (tE X.K TB C Wx (slrK ra)) := by
  refine (pe_revL ha).mono fun σ H Q g => ?_
  refine one g fun W O ρ x v H1 en rx g => ?_
  obtain ⟨r, er, q⟩ := Go.ofOpt en g
  unfold slrT at er
  split at er
  · rename_i xs ex
    rw [ex] at rx
    cases er
    obtain ⟨ad, vs, ev, ha, rr⟩ := rx.lst
    exact ⟨ad, vs, ev, SqL.of ha, q.newL rr.reverse⟩
  · cases er
/-! ### built-ins -/
theorem sem_blt {K : PySem.W.Frag} {σ : L2.St} {H : Hp} {Q : VK} {b : Bi} (g : tE K TB C Wx (bltK b rl) σ H Q) : tCB (rB K (blt1 b)) (tA K TB C Wx rl) σ H Q := by
  refine sevl g fun Nw W O ρ l vs fr H1 vp g => ?_
  obtain ⟨r, er, q⟩ := Go.ofOpt vp.env0 g
  exact ⟨_, _, r, vp.reads, er, q⟩
theorem r_bltB {b : Bi} {id : String} (hc : CallR X (.builtin id) (rB X.K (blt1 b))) (hg : Gl X x) (hm : X.mg x = none) (hv : bootBuiltins x = some (.builtin id)) (ha : PA X (e :: es) (tA X.K TB C Wx rl)) (hn : x ≠ "__name__") (hdb : (x == ("__debug__" : Str)) = false)
    (he : starEach (e :: es) X.env = (false, eval e X.env) :: starEach es X.env) (hpl : (backTo pos (starEach es X.env)).any (·.1) = false) : PE X (.Call (.Name x p) (e :: es) [] pos) (tE X.K TB C Wx (bltK b rl)) :=
  (pe_callB hc hg hm hv ha hn hdb he hpl).mono fun σ H Q g => sem_blt g
theorem r_bltT {b : Bi} {T : String} (hc : CallR X (.type T) (rB X.K (blt1 b))) (hg : Gl X x) (hm : X.mg x = none) (hv : bootBuiltins x = some (.type T)) (ha : PA X (e :: es) (tA X.K TB C Wx rl)) (hn : x ≠ "__name__") (hdb : (x == ("__debug__" : Str)) = false)
    (he : starEach (e :: es) X.env = (false, eval e X.env) :: starEach es X.env) (hpl : (backTo pos (starEach es X.env)).any (·.1) = false) : PE X (.Call (.Name x p) (e :: es) [] pos) (tE X.K TB C Wx (bltK b rl)) :=
  (pe_callTy hc hg hm hv ha hn hdb he hpl).mono fun σ H Q g => sem_blt g
/-- isinstance -/
theorem r_isi {y : Ty} {n : Str} {p2 : Pos} (hg : Gl X x) (hm : X.mg x = none) (hv : bootBuiltins x = some (.builtin "isinstance")) (hn : x ≠ "__name__") (hdb : (x == ("__debug__" : Str)) = false) (hg2 : Gl X n) (hm2 : X.mg n = none) (hv2 : bootBuiltins n = some (.type (tyName y)))
    (hn2 : n ≠ "__name__") (hdb2 : (n == ("__debug__" : Str)) = false) (ha : PE X a (tE X.K TB C Wx ra)) (he : ∀ es, starEach (a :: es) X.env = (false, eval a X.env) :: starEach es X.env) :
    PE X (.Call (.Name x p) [a, .Name n p2] [] pos) (tE X.K TB C Wx (isiK ra y)) := by
  refine (pe_callB (ok_isi y) hg hm hv (pa_cons ha (pa_cons (pe_bltn hg2 hm2 hv2 (v := .ty (tyName y)) rfl hn2 hdb2) pa_nil) (he _)) hn hdb (he _) rfl).mono fun σ H Q g => ?_
  refine one g fun W O ρ x v H1 en rx g => ?_
  have g : Go TB C Wx (kdV X.K TB σ) H1 W O ρ (cond (isScr (val ρ x)) .bad (.ok ⟨.bl (isTy y (val ρ x)), .s⟩ ρ)) Q := g
  cases e : isScr (val ρ x) with
  | true => rw [e] at g; exact g.elim
  | false =>
    rw [e] at g
    exact ⟨_, _, v, rfl, rx, e, Go.resB (C := C) (Wx := Wx) en g⟩
/-! ### methods of lists -/
theorem isLst_some {t : T} (h : isLst t = true) : ∃ l, t = .lst l := by
  cases t with
  | lst l => exact ⟨l, rfl⟩
  | _ => cases h
theorem tyV_lst {K : PySem.W.Frag} {N : Addr → Prop} {H : Hp} {t : T} {v : V} (r : RRep K H N t v) (h : isLst t = true) : tyV K "list" v H := by
  obtain ⟨l, rfl⟩ := isLst_some h
  obtain ⟨ad, vs, rfl, ha, rr⟩ := r.lst
  exact .inl ⟨rfl, vs, SqL.of ha⟩
theorem r_mth {m : Mt} {name : Str} {id : String} {apos cpos : Pos} (slot : Slot "list" name id) (hty : typeOf (.builtin id) = pure (.type "method_descriptor")) (hm : MtR X id (rM X.K (lstM m))) (ho : PE X a (tE X.K TB C Wx ra)) (ha : PA X (e :: es) (tA X.K TB C Wx rl))
    (hbase : attributeBase a name X.env (eval a X.env) = eval a X.env)
    (hfew : ((backTo cpos (starEach (e :: es) X.env)).all (fun x => !x.1) && (backToKw cpos (keywordEach [] X.env)).all (fun x => x.1.isSome)
      && decide ((e :: es).length + ([] : List Keyword).length + (if ([] : List Keyword).isEmpty then 0 else 1) < 30)) = true)
    (hline : (apos.endLine == cpos.line) = true) (hs : starEach (e :: es) X.env = (false, eval e X.env) :: starEach es X.env) (hplain : (backTo cpos (starEach es X.env)).any (·.1) = false) :
    PE X (.Call (.Attribute a name apos) (e :: es) [] cpos) (tE X.K TB C Wx (mthK m ra rl)) := by
  refine (pe_bm PySem.F.plainAttrs_list slot hty hm ho ha hbase hfew hline hs hplain).mono fun σ H Q g => ?_
  refine oneSevl (P := fun v H1 => tyV X.K "list" v H1) g (fun N ρ x v H1 r h => tyV_lst r h) fun Nw W O ρ x v l vs fr H1 vp rx g => ?_
  obtain ⟨r, er, q⟩ := Go.ofOpt vp.env0 g
  exact ⟨_, _, _, r, rx, vp.reads, er, q⟩
/-! ### mutators -/
theorem isOwl_some {s : Sl} (h : isOwl s = true) : ∃ b l, s = .ow b (.lst l) := by
  cases s with
  | ow b t =>
    obtain ⟨l, rfl⟩ := isLst_some h
    exact ⟨b, l, rfl⟩
  | _ => cases h
theorem givM_other {ρ : Env} {m : Mu} {l : List TK} (h : ∀ ts, m = .extend → ts = ()) : True := trivial
/-- the receiver's name, then the arguments, then the change -/
theorem sem_mut {K : PySem.W.Frag} {σ : L2.St} {H : Hp} {Q : VK} {m : Mu} {i : Nat} {rr : V → List V → Hp → VK → Prop} (g : tE K TB C Wx (mutK m i rl) σ H Q)
    (hr : ∀ Nw W O ρ l vs fr H1 ts bb t t' y ad, VPs K TB Nw H1 W O σ ρ l vs fr → EnvRep K TB H1 W O σ ρ → givM ρ m l = some ts → slotAt ρ i = .ow bb t → O i = some ad → OwnRep K H1 (NG W O) t ad → mut1 m t ts = some ⟨t', y⟩ →
      (∀ v H', Upd ad H1 H' → OwnRep K H' (NG W O) t' ad → Rep K H' (NG W O) y v → Q v H') → rr (.ref ad) vs H1 Q) :
    tVar i σ H fun v H1 => tyV K "list" v H1 ∧ tA K TB C Wx rl σ H1 fun vs H2 => rr v vs H2 Q := by
  obtain ⟨W, O, ρ, en, g⟩ := g
  cases ec : isOwl (slotAt ρ i) with
  | false =>
    have g : Go TB C Wx (kdV K TB σ) H W O ρ (cond (isOwl (slotAt ρ i)) ((rl ρ).bind fun l ρ => match givM ρ m l with | some ts => mut2 m i ts ρ (slotAt ρ i) | none => .bad) .bad) Q := g
    rw [ec] at g; exact g.elim
  | true =>
    have g : Go TB C Wx (kdV K TB σ) H W O ρ (cond (isOwl (slotAt ρ i)) ((rl ρ).bind fun l ρ => match givM ρ m l with | some ts => mut2 m i ts ρ (slotAt ρ i) | none => .bad) .bad) Q := g
    rw [ec] at g
    have g : Go TB C Wx (kdV K TB σ) H W O ρ ((rl ρ).bind fun l ρ => match givM ρ m l with | some ts => mut2 m i ts ρ (slotAt ρ i) | none => .bad) Q := g
    obtain ⟨bb, l0, es⟩ := isOwl_some ec
    obtain ⟨ad, ea, ev, own⟩ := en.ow es
    refine ⟨.ref ad, ev, ?_, W, O, ρ, en, Go.first (k := kdL K TB σ) g fun l ρ1 vs H1 O1 e p vp g1 => ?_⟩
    · obtain ⟨ws, hw, _⟩ := own.lstE
      exact .inl ⟨rfl, ws, SqL.of hw⟩
    · obtain ⟨fr, vp⟩ := vp
      cases eg : givM ρ1 m l with
      | none =>
        have g1 : Go TB C Wx (kdV K TB σ) H1 W O1 ρ1 (match givM ρ1 m l with | some ts => mut2 m i ts ρ1 (slotAt ρ1 i) | none => .bad) Q := g1
        rw [eg] at g1; exact g1.elim
      | some ts =>
        have g1 : Go TB C Wx (kdV K TB σ) H1 W O1 ρ1 (match givM ρ1 m l with | some ts => mut2 m i ts ρ1 (slotAt ρ1 i) | none => .bad) Q := g1
        rw [eg] at g1
        have g1 : Go TB C Wx (kdV K TB σ) H1 W O1 ρ1 (mut2 m i ts ρ1 (slotAt ρ1 i)) Q := g1
        cases es1 : slotAt ρ1 i with
        | ow bb t =>
          rw [es1] at g1
          have g1 : Go TB C Wx (kdV K TB σ) H1 W O1 ρ1 (match mut1 m t ts with | some ⟨t', y⟩ => .ok ⟨y, .s⟩ (put ρ1 i (.ow bb t')) | none => .bad) Q := g1
          cases em : mut1 m t ts with
          | none => rw [em] at g1; exact g1.elim
          | some w =>
            obtain ⟨t', y⟩ := w
            rw [em] at g1
            have g1 : Go TB C Wx (kdV K TB σ) H1 W O1 ρ1 (.ok ⟨y, .s⟩ (put ρ1 i (.ow bb t'))) Q := g1
            have en1 := vp.env0
            obtain ⟨ad', ea', ev', own'⟩ := en1.ow es1
            have : ad' = ad := by rw [ev] at ev'; cases ev'; rfl
            subst this
            refine hr (nw H O ρ) W O1 ρ1 l vs fr H1 ts bb t t' y ad' vp en1 eg es1 ea' own' em fun v H' u r' ry => ?_
            obtain ⟨k1, k2⟩ := en1.mut es1 ea' u r'
            exact g1 v H' O1 k2 ⟨ry, k1⟩
        | _ => rw [es1] at g1; exact g1.elim
theorem r_mut1 {m : Mu} {i : Nat} {name : Str} {id : String} {apos cpos np : Pos} {f : T → List T → Option T2} (ef : mut1 m = f) (eg : ∀ ρ, givM ρ m = giv) (hN : X.N[i]? = some x) (hv : Vis X.env.scope x) (hd : (x == ("__debug__" : Str)) = false) (hcd : (x == ("__classdict__" : Str)) = false)
    (slot : Slot "list" name id) (hty : typeOf (.builtin id) = pure (.type "method_descriptor")) (hm : MtR X id (rMuG X.K f)) (ha : PA X (e :: es) (tA X.K TB C Wx rl))
    (hfew : ((backTo cpos (starEach (e :: es) X.env)).all (fun x => !x.1) && (backToKw cpos (keywordEach [] X.env)).all (fun x => x.1.isSome)
      && decide ((e :: es).length + ([] : List Keyword).length + (if ([] : List Keyword).isEmpty then 0 else 1) < 30)) = true)
    (hline : (apos.endLine == cpos.line) = true) (hs : starEach (e :: es) X.env = (false, eval e X.env) :: starEach es X.env) (hplain : (backTo cpos (starEach es X.env)).any (·.1) = false)
    (hbase : attributeBase (.Name x np) name X.env (eval (.Name x np) X.env) = eval (.Name x np) X.env) :
    PE X (.Call (.Attribute (.Name x np) name apos) (e :: es) [] cpos) (tE X.K TB C Wx (mutK m i rl)) := by
  refine (pe_bm PySem.F.plainAttrs_list slot hty hm (pe_var hN hv hd hcd) ha hbase hfew hline hs hplain).mono fun σ H Q g => ?_
  refine sem_mut g fun Nw W O ρ l vs fr H1 ts bb t t' y ad vp en gg es ea own em hq => ?_
  rw [eg] at gg
  rw [ef] at em
  exact ⟨NG W O, ad, t, ts, t', y, rfl, .inr ⟨i, ea⟩, own, vp.giv gg, em, hq⟩
theorem r_mut0 {m : Mu} {i : Nat} {name : Str} {id : String} {apos cpos np : Pos} {f : T → List T → Option T2} (ef : mut1 m = f) (eg : ∀ ρ, givM ρ m = giv) (hN : X.N[i]? = some x) (hv : Vis X.env.scope x) (hd : (x == ("__debug__" : Str)) = false) (hcd : (x == ("__classdict__" : Str)) = false)
    (slot : Slot "list" name id) (hty : typeOf (.builtin id) = pure (.type "method_descriptor")) (hm : MtR X id (rMuG X.K f))
    (hline : (apos.endLine == cpos.line) = true) (hbase : attributeBase (.Name x np) name X.env (eval (.Name x np) X.env) = eval (.Name x np) X.env) :
    PE X (.Call (.Attribute (.Name x np) name apos) [] [] cpos) (tE X.K TB C Wx (mutK m i nilK)) := by
  refine (pe_bm0 PySem.F.plainAttrs_list slot hty hm (pe_var hN hv hd hcd) hbase hline).mono fun σ H Q g => ?_
  obtain ⟨v, ev, ty, g2⟩ := sem_mut (rr := fun v vs H1 Q => vs = [] → rMuG X.K f v [] H1 Q) g fun Nw W O ρ l vs fr H1 ts bb t t' y ad vp en gg es ea own em hq ev => by
    subst ev
    rw [eg] at gg
    rw [ef] at em
    exact ⟨NG W O, ad, t, ts, t', y, rfl, .inr ⟨i, ea⟩, own, vp.giv gg, em, hq⟩
  refine ⟨v, ev, ty, ?_⟩
  obtain ⟨W, O, ρ, en, g2⟩ := g2
  exact g2 [] H O Post.refl ⟨[], ⟨.nil, (fun _ z => by cases z), (fun _ z => by cases z), en.drop uni_nil, .nil⟩⟩ rfl
theorem r_ext {i : Nat} {apos cpos np : Pos} (hN : X.N[i]? = some x) (hv : Vis X.env.scope x) (hd : (x == ("__debug__" : Str)) = false) (hcd : (x == ("__classdict__" : Str)) = false) (ha : PA X (e :: es) (tA X.K TB C Wx rl))
    (hfew : ((backTo cpos (starEach (e :: es) X.env)).all (fun x => !x.1) && (backToKw cpos (keywordEach [] X.env)).all (fun x => x.1.isSome)
      && decide ((e :: es).length + ([] : List Keyword).length + (if ([] : List Keyword).isEmpty then 0 else 1) < 30)) = true)
    (hline : (apos.endLine == cpos.line) = true) (hs : starEach (e :: es) X.env = (false, eval e X.env) :: starEach es X.env) (hplain : (backTo cpos (starEach es X.env)).any (·.1) = false)
    (hbase : attributeBase (.Name x np) "extend" X.env (eval (.Name x np) X.env) = eval (.Name x np) X.env) :
    PE X (.Call (.Attribute (.Name x np) "extend" apos) (e :: es) [] cpos) (tE X.K TB C Wx (mutK .extend i rl)) := by
  refine (pe_bm PySem.F.plainAttrs_list PySem.F.slot_list_extend PySem.F.type_list_extend ok_extend (pe_var hN hv hd hcd) ha hbase hfew hline hs hplain).mono fun σ H Q g => ?_
  refine sem_mut g fun Nw W O ρ l vs fr H1 ts bb t t' y ad vp en gg es ea own em hq => ?_
  have gg : some (trees ρ l) = some ts := gg
  cases gg
  exact ⟨NG W O, ad, t, _, t', y, rfl, .inr ⟨i, ea⟩, own, vp.reads, em, hq⟩
end
end PB
end

section
set_option Elab.async false
set_option linter.all false
set_option maxRecDepth 100000
set_option maxHeartbeats 4000000
/-! Sound12: from one point of a body to a later one; targets, small statements. -/
namespace PB
open PySem PySem.Spec PyProof.Rows L2
section
variable {H H' H1 H2 : Hp} {W W' W1 : Addr → Prop} {O O' O1 O2 : OA} {ρ ρ' ρ1 ρ2 : Env} {σ σ' σ1 σ2 : L2.St} {Hd Hd1 : Addr → Prop}
/-- from one point of a body to a later one; Hd: new things that are held at the start -/
structure SPost (Hd : Addr → Prop) (H : Hp) (O : OA) (ρ : Env) (σ : L2.St) (H' : Hp) (O' : OA) (ρ' : Env) (σ' : L2.St) : Prop where
  own : ∀ i a, O' i = some a → (∃ j, O j = some a) ∨ nn H a ∨ Hd a
  keep : ∀ b o, H b = some o → ¬ Ow O ρ b → nt o → H' b = some o
  per : ∀ b o, H b = some o → nt o → ∃ o', H' b = some o' ∧ nt o'
  ow : ∀ b, Ow O' ρ' b → Ow O ρ b ∨ nn H b ∨ Hd b
  lnt : ∀ i, mayStore (slotAt ρ i) = false → σ'[i]? = σ[i]? ∧ mayStore (slotAt ρ' i) = false ∧ ∀ a, O' i = some a → O i = some a
  len : σ'.length = σ.length
  le : ∀ i t, slotAt ρ i = .le t → slotAt ρ' i = .le t ∧ O' i = O i
def no1 : Addr → Prop := fun _ => False
theorem SPost.of (p : Post H O ρ H' O' ρ') : SPost Hd H O ρ σ H' O' ρ' σ :=
  ⟨fun i a e => .inl ⟨i, p.own i a e⟩, p.keep, p.per, fun b h => .inl (p.ow h), fun i e => ⟨rfl, p.ms i e, p.own i⟩, rfl, p.le⟩
theorem SPost.nw (p : SPost no1 H O ρ σ H1 O1 ρ1 σ1) {a : Addr} (h : nw H1 O1 ρ1 a) : PB.nw H O ρ a := by
  rcases h with h | h
  · refine .inl fun o e z => ?_
    obtain ⟨o', e', z'⟩ := p.per a o e z
    exact h o' e' z'
  · rcases p.ow a h with h | h | h
    · exact .inr h
    · exact .inl h
    · exact h.elim
theorem SPost.trans (p : SPost no1 H O ρ σ H1 O1 ρ1 σ1) (q : SPost Hd H1 O1 ρ1 σ1 H2 O2 ρ2 σ2) (hd : ∀ b, Hd b → PB.nw H O ρ b) : SPost no1 H O ρ σ H2 O2 ρ2 σ2 where
  own := fun i a e => by
    rcases q.own i a e with ⟨j, e1⟩ | e1 | e1
    · exact p.own j a e1
    · rcases p.nw (.inl e1) with h | ⟨j, _, _, h, _⟩
      · exact .inr (.inl h)
      · exact .inl ⟨j, h⟩
    · rcases hd a e1 with h | ⟨j, _, _, h, _⟩
      · exact .inr (.inl h)
      · exact .inl ⟨j, h⟩
  keep := fun b o e n z => q.keep b o (p.keep b o e n z) (fun h => by
    rcases p.ow b h with h | h | h
    · exact n h
    · exact h o e z
    · exact h) z
  per := fun b o e z => by
    obtain ⟨o1, e1, z1⟩ := p.per b o e z
    exact q.per b o1 e1 z1
  ow := fun b h => by
    rcases q.ow b h with h | h | h
    · exact p.ow b h
    · rcases p.nw (.inl h) with h | h
      · exact .inr (.inl h)
      · exact .inl h
    · rcases hd b h with h | h
      · exact .inr (.inl h)
      · exact .inl h
  lnt := fun i e => by
    obtain ⟨a1, a2, a3⟩ := p.lnt i e
    obtain ⟨b1, b2, b3⟩ := q.lnt i a2
    exact ⟨b1.trans a1, b2, fun a e => a3 a (b3 a e)⟩
  len := q.len.trans p.len
  le := fun i t e => by
    obtain ⟨a, b⟩ := p.le i t e
    obtain ⟨c, d⟩ := q.le i t a
    exact ⟨c, d.trans b⟩
theorem no1_any {Q : Addr → Prop} : ∀ b, no1 b → Q b := fun _ h => h.elim
end
section
variable {K : PySem.W.Frag} {TB : List (Addr × Str)} {C : CT} {Wx : WX}
variable {H H' H1 H2 : Hp} {W W' W1 : Addr → Prop} {O O' O1 O2 : OA} {ρ ρ' ρ1 ρ2 : Env} {σ σ' σ1 σ2 : L2.St} {Hd Hd1 : Addr → Prop}
variable {α β : Type}
abbrev GG (α : Type) := α → L2.St → Hp → OA → Env → Prop
def SGo (K : PySem.W.Frag) (TB : List (Addr × Str)) (C : CT) (Wx : WX) (Hd : Addr → Prop) (H : Hp) (W : Addr → Prop) (O : OA) (ρ : Env) (σ : L2.St) (r : R α) (G : GG α) : Prop := match r with
  | .ok a ρ' => ∀ σ' H' O', SPost Hd H O ρ σ H' O' ρ' σ' → EnvRep K TB H' W O' σ' ρ' → G a σ' H' O' ρ'
  | .exc c x => ∀ cls d σ' H', XPost K TB C H W O ρ c x cls d H' → Wx cls d σ' H'
  | .bad => False
theorem xpost_back {c : Nat} {x : T} {cls : Value} {d : Option Addr} (p : SPost no1 H O ρ σ H1 O1 ρ1 σ1) (hw : ∀ b, W b → W1 b) (xp : XPost K TB C H1 W1 O1 ρ1 c x cls d H2) : XPost K TB C H W O ρ c x cls d H2 :=
  ⟨xp.cls, xp.pay.weak hw, fun b o e n z => xp.keep b o (p.keep b o e n z) (fun h => by
    rcases p.ow b h with h | h | h
    · exact n h
    · exact h o e z
    · exact h) z, xp.tab, fun b o e z => by
    obtain ⟨o1, e1, z1⟩ := p.per b o e z
    exact xp.per b o1 e1 z1⟩
theorem SGo.shift {r : R α} {G G1 : GG α} (g : SGo K TB C Wx no1 H W O ρ σ r G) (p : SPost no1 H O ρ σ H1 O1 ρ1 σ1) (hd : ∀ b, Hd1 b → nw H O ρ b) (hw : ∀ b, W b → W1 b) (hG : ∀ a σ' H' O' ρ', G a σ' H' O' ρ' → G1 a σ' H' O' ρ') :
    SGo K TB C Wx Hd1 H1 W1 O1 ρ1 σ1 r G1 := by
  cases r with
  | ok x ρ' => exact fun σ' H' O' p' en => hG _ _ _ _ _ (g σ' H' O' (p.trans p' hd) (en.drop hw))
  | exc c x => exact fun cls d σ' H' xp => g cls d σ' H' (xpost_back p hw xp)
  | bad => exact g
/-- the first part of a sequence -/
theorem SGo.first {r : R α} {f : α → Env → R β} {G : GG β} {G1 : GG α} (g : SGo K TB C Wx no1 H W O ρ σ (r.bind f) G)
    (h : ∀ a ρ1 σ1 H1 O1, r = .ok a ρ1 → SPost no1 H O ρ σ H1 O1 ρ1 σ1 → EnvRep K TB H1 W O1 σ1 ρ1 → SGo K TB C Wx no1 H W O ρ σ (f a ρ1) G → G1 a σ1 H1 O1 ρ1) : SGo K TB C Wx no1 H W O ρ σ r G1 := by
  cases r with
  | ok x ρ1 => exact fun σ1 H1 O1 p en => h x ρ1 σ1 H1 O1 rfl p en g
  | exc c x => exact g
  | bad => exact g
/-- .. an expression's -/
theorem SGo.firstE {γ : Type} {k : Kd K σ α γ} {r : R α} {f : α → Env → R β} {G : GG β} {Q1 : γ → Hp → Prop} (g : SGo K TB C Wx no1 H W O ρ σ (r.bind f) G)
    (h : ∀ a ρ1 b H1 O1, r = .ok a ρ1 → Post H O ρ H1 O1 ρ1 → k.VP (nw H O ρ) W a H1 O1 ρ1 b → SGo K TB C Wx no1 H W O ρ σ (f a ρ1) G → Q1 b H1) : Go TB C Wx k H W O ρ r Q1 := by
  cases r with
  | ok x ρ1 => exact fun b H1 O1 p v => h x ρ1 b H1 O1 rfl p v g
  | exc c x => exact g
  | bad => exact g
/-- what is shared is carried on -/
theorem ow_mut2 (en : EnvRep K TB H W O σ ρ) (p : SPost Hd H O ρ σ H1 O1 ρ1 σ1) : ∀ b o, H b = some o → (∃ xs, o = .tup xs ∨ ∃ ob, o = .frz ob (.tup xs)) → H1 b = some o := fun b o eb h => p.keep b o eb (fun q => by
  rcases ow_mut en q eb with ⟨vs, rfl⟩ | ⟨ks, rfl⟩ | ⟨ks, rfl⟩
  · obtain ⟨xs, h | ⟨ob, h⟩⟩ := h <;> cases h
  · obtain ⟨xs, h | ⟨ob, h⟩⟩ := h <;> cases h
  · obtain ⟨xs, h | ⟨ob, h⟩⟩ := h <;> cases h) (fun ps z => by
  subst z
  obtain ⟨xs, h | ⟨ob, h⟩⟩ := h <;> cases h)
theorem Rep.spost {t : T} {v : V} {N : Addr → Prop} (p : SPost Hd H O ρ σ H1 O1 ρ1 σ1) (en : EnvRep K TB H W O σ ρ) (hN : ∀ b, NG W O b → N b) (hh : ∀ b, Hd b → N b) (r : Rep K H N t v) : Rep K H1 (NG W O1) t v :=
  r.keep (fun b o eb n z => p.keep b o eb (fun q => n (hN b (ow_ng q))) z) (ow_mut2 en p) (fun b q => by
    rcases q with q | ⟨i, q⟩
    · exact .inl (hN b (.inl q))
    · rcases p.own i b q with ⟨j, e⟩ | e | e
      · exact .inl (hN b (.inr ⟨j, e⟩))
      · exact .inr e
      · exact .inl (hh b e))
theorem Reps.spost {t : List T} {v : List V} {N : Addr → Prop} (p : SPost Hd H O ρ σ H1 O1 ρ1 σ1) (en : EnvRep K TB H W O σ ρ) (hN : ∀ b, NG W O b → N b) (hh : ∀ b, Hd b → N b) (r : Reps K H N t v) : Reps K H1 (NG W O1) t v :=
  r.keep (fun b o eb n z => p.keep b o eb (fun q => n (hN b (ow_ng q))) z) (ow_mut2 en p) (fun b q => by
    rcases q with q | ⟨i, q⟩
    · exact .inl (hN b (.inl q))
    · rcases p.own i b q with ⟨j, e⟩ | e | e
      · exact .inl (hN b (.inr ⟨j, e⟩))
      · exact .inr e
      · exact .inl (hh b e))
/-! ### stores to names -/
theorem set_get_ne {σ : L2.St} {i j : Nat} {v : Option V} (h : j ≠ i) : (σ.set i v)[j]? = σ[j]? := List.getElem?_set_ne (Ne.symm h)
theorem EnvRep.setSh {i : Nat} {t : T} {v : V} (en : EnvRep K TB H W O σ ρ) (r : Rep K H (NG W O) t v) (hi : i < ρ.length) : EnvRep K TB H W (setO O i none) (σ.set i (some v)) (put ρ i (.sh t)) := by
  refine en.upd1 (by simp) (fun j c => ?_) ?_ hi (fun _ z => by cases z) (fun j a _ q => en.out j a q) en.wt en.tab
  · rw [set_get_ne c]
    exact (en.sl j).weak (ng_setO (.inl rfl))
  · refine ⟨rfl, v, ?_, r.weak (ng_setO (.inl rfl))⟩
    rw [List.getElem?_set_self (by rw [← en.len]; exact hi)]
theorem EnvRep.setOw {i : Nat} {t : T} {a : Addr} (en : EnvRep K TB H (plus W a) O σ ρ) (ng : ¬ NG W O a) (r : OwnRep K H (NG (plus W a) O) t a) (hi : i < ρ.length) : EnvRep K TB H W (setO O i (some a)) (σ.set i (some (.ref a))) (put ρ i (.ow false t)) := by
  have hn : ∀ b, NG W (setO O i (some a)) b → NG (plus W a) O b := fun b q => by
    rcases q with q | ⟨j, q⟩
    · exact .inl (.inl q)
    · by_cases c : j = i
      · subst c; rw [setO_same] at q; cases q; exact .inl (.inr rfl)
      · rw [setO_ne c] at q; exact .inr ⟨j, q⟩
  refine (en.drop (W' := W) fun b q => .inl q).upd1 (by simp) (fun j c => ?_) ?_ hi (fun b z => ?_) (fun j b _ q => fun w => en.out j b q (.inl w)) (fun b w => en.wt b (.inl w)) en.tab
  · rw [set_get_ne c]
    exact (en.sl j).weak hn
  · exact ⟨a, rfl, by rw [List.getElem?_set_self (by rw [← en.len]; exact hi)], r.weak hn⟩
  · cases z
    exact ⟨fun w => ng (.inl w), fun j _ q => ng (.inr ⟨j, q⟩)⟩
theorem put_out : ∀ (ρ : Env) (i : Nat) (s : Sl), ρ.length ≤ i → put ρ i s = ρ
  | [], _, _, _ => rfl
  | x :: r, 0, s, h => absurd h (by simp)
  | x :: r, i + 1, s, h => by
    show x :: put r i s = x :: r
    rw [put_out r i s (Nat.le_of_succ_le_succ h)]
theorem set_out {σ : L2.St} {i : Nat} {v : Option V} (h : σ.length ≤ i) : σ.set i v = σ := List.set_eq_of_length_le h
def held (x : TK) (v : V) : Addr → Prop := fun a => x.k = .f ∧ v = .ref a
/-- a name is stored: what changed -/
theorem spost_set {i : Nat} {s : Sl} {o : Option Addr} {v : V} {Hd : Addr → Prop} (hm : mayStore (slotAt ρ i) = true) (ho : ∀ a, o = some a → Hd a) (hs : ∀ bb t, s = .ow bb t → o ≠ none) : SPost Hd H O ρ σ H (setO O i o) (put ρ i s) (σ.set i (some v)) where
  own := fun j a e => by
    by_cases c : j = i
    · subst c; rw [setO_same] at e; exact .inr (.inr (ho a e))
    · rw [setO_ne c] at e; exact .inl ⟨j, e⟩
  keep := fun b o e _ _ => e
  per := fun b o e z => ⟨o, e, z⟩
  ow := fun b ⟨j, bb, t, e1, e2⟩ => by
    by_cases c : j = i
    · subst c
      rw [setO_same] at e1
      exact .inr (.inr (ho b e1))
    · rw [setO_ne c] at e1
      rw [slot_put_ne ρ s (Ne.symm c)] at e2
      exact .inl ⟨j, bb, t, e1, e2⟩
  lnt := fun j e => by
    have c : j ≠ i := fun c => by subst c; rw [hm] at e; cases e
    rw [set_get_ne c, slot_put_ne ρ s (Ne.symm c), setO_ne c]
    exact ⟨rfl, e, fun _ h => h⟩
  len := by simp
  le := fun j t e => by
    have c : j ≠ i := fun c => by subst c; rw [e] at hm; cases hm
    rw [slot_put_ne ρ s (Ne.symm c), setO_ne c]
    exact ⟨e, rfl⟩
/-! ### targets -/
def tG (K : PySem.W.Frag) (TB : List (Addr × Str)) (C : CT) (Wx : WX) (r : TK → Env → R Unit) : TG := fun v σ H Q =>
  ∃ Nw W O ρ x, VPost K TB Nw H W O σ ρ x v ∧ SGo K TB C Wx (held x v) H W O ρ σ (r x ρ) (fun _ σ' H' _ _ => Q σ' H')
def tGs (K : PySem.W.Frag) (TB : List (Addr × Str)) (C : CT) (Wx : WX) (r : List TK → Env → R Unit) : TGs := fun vs σ H Q =>
  ∃ H0 O0 ρ0 σ0 W O ρ l fr, SPost no1 H0 O0 ρ0 σ0 H O ρ σ ∧ VPs K TB (nw H0 O0 ρ0) H W O σ ρ l vs fr ∧ (∃ ts, giv l = some ts) ∧ SGo K TB C Wx no1 H0 W O0 ρ0 σ0 (r l ρ) (fun _ σ' H' _ _ => Q σ' H')
theorem sem_tn {i : Nat} {v : V} {Q : L2.St → Hp → Prop} (g : tG K TB C Wx (setSlot i) v σ H Q) : Q (σ.set i (some v)) H := by
  obtain ⟨Nw, W, O, ρ, ⟨t, k⟩, vp, g⟩ := g
  have g : SGo K TB C Wx (held ⟨t, k⟩ v) H W O ρ σ (match slotOf t k with | some s => cond (mayStore (slotAt ρ i)) (.ok () (put ρ i s)) .bad | none => .bad) (fun _ σ' H' _ _ => Q σ' H') := g
  have hi : i < ρ.length ∨ ρ.length ≤ i := Nat.lt_or_ge _ _
  cases k with
  | p j => exact g.elim
  | s =>
    have g : SGo K TB C Wx (held ⟨t, .s⟩ v) H W O ρ σ (cond (mayStore (slotAt ρ i)) (.ok () (put ρ i (.sh t))) .bad) (fun _ σ' H' _ _ => Q σ' H') := g
    cases em : mayStore (slotAt ρ i) with
    | false => rw [em] at g; exact g.elim
    | true =>
      rw [em] at g
      rcases hi with hi | hi
      · exact g _ H (setO O i none) (spost_set em (fun _ z => by cases z) (fun _ _ z => by cases z)) (vp.2.setSh vp.1 hi)
      · have g : SGo K TB C Wx (held ⟨t, .s⟩ v) H W O ρ σ (.ok () (put ρ i (.sh t))) (fun _ σ' H' _ _ => Q σ' H') := g
        rw [put_out ρ i _ hi] at g
        rw [set_out (by rw [← vp.2.len]; exact hi)]
        exact g σ H O (.of Post.refl) vp.2
  | f =>
    obtain ⟨a, rfl, hn, ng, r, en⟩ := vp
    have g : SGo K TB C Wx (held ⟨t, .f⟩ (.ref a)) H W O ρ σ (cond (mayStore (slotAt ρ i)) (.ok () (put ρ i (.ow false t))) .bad) (fun _ σ' H' _ _ => Q σ' H') := g
    cases em : mayStore (slotAt ρ i) with
    | false => rw [em] at g; exact g.elim
    | true =>
      rw [em] at g
      rcases hi with hi | hi
      · exact g _ H (setO O i (some a)) (spost_set em (fun b z => by cases z; exact ⟨rfl, rfl⟩) (fun _ _ _ z => by cases z)) (en.setOw ng r hi)
      · have g : SGo K TB C Wx (held ⟨t, .f⟩ (.ref a)) H W O ρ σ (.ok () (put ρ i (.ow false t))) (fun _ σ' H' _ _ => Q σ' H') := g
        rw [put_out ρ i _ hi] at g
        rw [set_out (by rw [← en.len]; exact hi)]
        exact g σ H O (.of Post.refl) (en.drop fun b q => .inl q)
theorem sem_tnil {vs : List V} {Q : L2.St → Hp → Prop} (g : tGs K TB C Wx tnilK vs σ H Q) : gNil vs σ H Q := by
  obtain ⟨H0, O0, ρ0, σ0, W, O, ρ, l, fr, p, vp, _, g⟩ := g
  cases l with
  | nil =>
    have vl := vp.vl
    cases vl
    exact ⟨rfl, g σ H O p vp.env0⟩
  | cons x l => exact g.elim
theorem sem_tcons {ra : EA} {rl : List TK → Env → R Unit} {vs : List V} {Q : L2.St → Hp → Prop} (g : tGs K TB C Wx (tconsK ra rl) vs σ H Q) : gCons (tG K TB C Wx ra) (tGs K TB C Wx rl) vs σ H Q := by
  obtain ⟨H0, O0, ρ0, σ0, W, O, ρ, l, fr, p, vp, ⟨ts, hg⟩, g⟩ := g
  cases l with
  | nil => exact g.elim
  | cons x l =>
    have g : SGo K TB C Wx no1 H0 W O0 ρ0 σ0 ((ra x ρ).bind fun _ ρ => rl l ρ) (fun _ σ' H' _ _ => Q σ' H') := g
    obtain ⟨t, ts', g1, g2, rfl⟩ := giv_cons hg
    have vl := vp.vl
    have key : ∀ {fr' : List Addr} {v : V} {vs' : List V} {x : TK}, SGo K TB C Wx no1 H0 W O0 ρ0 σ0 ((ra x ρ).bind fun _ ρ => rl l ρ) (fun _ σ' H' _ _ => Q σ' H') → VL K H (NG (uni W fr) O) σ ρ l vs' fr' → fr'.Nodup → (∀ a ∈ fr', a ∈ fr) → (∀ b, held x v b → b ∈ fr ∧ b ∉ fr') → EnvRep K TB H (uni W fr') O σ ρ →
        SGo K TB C Wx (held x v) H (uni W fr') O ρ σ (ra x ρ) (fun _ σ' H' _ _ => tGs K TB C Wx rl vs' σ' H' Q) := by
      intro fr' v vs' x g vl nd sub hh env
      cases er : ra x ρ with
      | bad => rw [er] at g; exact g
      | exc c y =>
        rw [er] at g
        exact fun cls d σ' H' xp => g cls d σ' H' (xpost_back p (fun _ q => Or.inl q) xp)
      | ok a ρ1 =>
        rw [er] at g
        intro σ1 H1 O1 ps en'
        have pz : SPost no1 H0 O0 ρ0 σ0 H1 O1 ρ1 σ1 := p.trans ps fun b q => vp.new b (hh b q).1
        have gz : SGo K TB C Wx no1 H0 W O0 ρ0 σ0 (rl l ρ1) (fun _ σ' H' _ _ => Q σ' H') := g
        refine ⟨H0, O0, ρ0, σ0, W, O1, ρ1, l, fr', pz, ⟨nd, fun a m => vp.new a (sub a m), fun a m q => ?_, en', ?_⟩, ⟨_, g2⟩, gz⟩
        · rcases q with q | ⟨i, q⟩
          · exact vp.ng a (sub a m) (.inl q)
          · rcases ps.own i a q with ⟨j, z⟩ | z | z
            · exact vp.ng a (sub a m) (.inr ⟨j, z⟩)
            · obtain ⟨o, ho, hz⟩ := vp.env.wt a (.inr (sub a m))
              exact z o ho hz
            · exact (hh a z).2 m
        · have hN : ∀ b, NG (uni W fr') O b → NG (uni W fr) O b := fun b q => by
            rcases q with (q | q) | q
            · exact .inl (.inl q)
            · exact .inl (.inr (sub b q))
            · exact .inr q
          have hH : ∀ b, held x v b → NG (uni W fr) O b := fun b q => .inl (.inr (hh b q).1)
          have hG : giv l = some ts' := g2
          have sub' : ∀ a ∈ fr', a ∈ fr' := fun _ m => m
          revert hG sub'
          generalize hfr : fr' = fz at *
          clear g2 g hg gz
          have go : ∀ {l : List TK} {vs' : List V} {f2 : List Addr} {ts' : List T}, VL K H (NG (uni W fr) O) σ ρ l vs' f2 → giv l = some ts' → (∀ a ∈ f2, a ∈ fr) → VL K H1 (NG (uni W fz) O1) σ1 ρ1 l vs' f2 := by
            intro l vs' f2 ts' vl
            induction vl generalizing ts' with
            | nil => intro _ _; exact .nil
            | sh r _ ih =>
              intro e m
              obtain ⟨_, _, _, e2, _⟩ := giv_cons e
              exact .sh (r.spost ps env hN hH) (ih e2 m)
            | @fr t a l vs fr3 r _ ih =>
              intro e m
              obtain ⟨_, _, _, e2, _⟩ := giv_cons e
              have na : ¬ Ow O ρ a := fun q => vp.ng a (m a List.mem_cons_self) (ow_ng q)
              refine .fr ?_ (ih e2 fun b q => m b (List.mem_cons_of_mem _ q))
              rcases r with ⟨ts, ws, e1, h, r⟩ | ⟨ts, ws, e1, h, r⟩ | ⟨ts, ws, e1, h, r⟩
              · exact .inl ⟨ts, ws, e1, ps.keep _ _ h na (fun _ z => by cases z), r.spost ps env hN hH⟩
              rotate_left
              · exact .inr (.inr ⟨ts, ws, e1, ps.keep _ _ h na (fun _ z => by cases z), r⟩)
              · refine .inr <| .inl ⟨ts, ws, e1, ps.keep _ _ h na (fun _ z => by cases z), r.keep (fun b o eb n z => ps.keep b o eb (fun q => n (hN b (ow_ng q))) z) (ow_mut2 env ps) (fun b q => ?_)⟩
                rcases q with q | ⟨i, q⟩
                · exact .inl (hN b (.inl q))
                · rcases ps.own i b q with ⟨j, e⟩ | e | e
                  · exact .inl (hN b (.inr ⟨j, e⟩))
                  · exact .inr e
                  · exact .inl (hH b e)
            | pk _ _ _ ih =>
              intro e m
              obtain ⟨_, _, e1, _, _⟩ := giv_cons e
              cases e1
          intro hG _
          exact go vl hG sub
    cases vl with
    | @sh _ v _ vs' _ r vl =>
      refine ⟨v, vs', rfl, nw H0 O0 ρ0, uni W fr, O, ρ, _, ?_, key g vl vp.nd (fun _ m => m) (fun b q => by cases q.1) vp.env⟩
      exact ⟨r, vp.env⟩
    | @fr _ a _ vs' fr' r vl =>
      have nd := List.nodup_cons.mp vp.nd
      have e1 : ∀ b, uni W (a :: fr') b → plus (uni W fr') a b := fun b q => by
        rcases q with q | q
        · exact .inl (.inl q)
        · rcases List.mem_cons.mp q with q | q
          · exact .inr q
          · exact .inl (.inr q)
      have e2 : ∀ b, plus (uni W fr') a b → uni W (a :: fr') b := fun b q => by
        rcases q with (q | q) | q
        · exact .inl q
        · exact .inr (List.mem_cons_of_mem _ q)
        · subst q; exact .inr List.mem_cons_self
      have env' : EnvRep K TB H (plus (uni W fr') a) O σ ρ := vp.env.drop e2
      refine ⟨.ref a, vs', rfl, nw H0 O0 ρ0, uni W fr', O, ρ, _, ?_, key g vl nd.2 (fun b m => List.mem_cons_of_mem _ m) (fun b q => by obtain ⟨_, q⟩ := q; cases q; exact ⟨List.mem_cons_self, nd.1⟩) (env'.drop fun _ q => .inl q)⟩
      refine ⟨a, rfl, vp.new a List.mem_cons_self, fun q => ?_, r.weak (ng_mono e2), env'⟩
      rcases q with (q | q) | q
      · exact vp.ng a List.mem_cons_self (.inl q)
      · exact nd.1 q
      · exact vp.ng a List.mem_cons_self (.inr q)
    | pk _ _ _ => cases g1
end
end PB
end

section
set_option Elab.async false
set_option linter.all false
set_option maxRecDepth 100000
set_option maxHeartbeats 4000000
/-! Sound13: targets, small statements. -/
namespace PB
open PySem PySem.Spec PyProof.Rows L2
theorem _root_.L2.PG.mono {X : Cx} {e : Expr} {t t' : TG} (h : PG X e t) (m : ∀ v σ H Q, t' v σ H Q → t v σ H Q) : PG X e t' := ⟨fun pins s σ H v u Q I r q => h.run pins s σ H v u Q I r (m v σ H Q q)⟩
theorem _root_.L2.PGs.mono {X : Cx} {e : List Expr} {t t' : TGs} (h : PGs X e t) (m : ∀ v σ H Q, t' v σ H Q → t v σ H Q) : PGs X e t' := ⟨fun pins s σ H v u Q I r q => h.run pins s σ H v u Q I r (m v σ H Q q)⟩
section
variable {K : PySem.W.Frag} {TB : List (Addr × Str)} {C : CT} {Wx : WX}
variable {H H' H1 H2 : Hp} {W W' W1 : Addr → Prop} {O O' O1 O2 : OA} {ρ ρ' ρ1 ρ2 : Env} {σ σ' σ1 σ2 : L2.St} {Hd Hd1 : Addr → Prop}
variable {α β : Type}
theorem SPost.hd (h : ∀ b, Hd b → Hd1 b) (p : SPost Hd H O ρ σ H1 O1 ρ1 σ1) : SPost Hd1 H O ρ σ H1 O1 ρ1 σ1 :=
  ⟨fun i a e => (p.own i a e).imp id (Or.imp id (h a)), p.keep, p.per, fun b e => (p.ow b e).imp id (Or.imp id (h b)), p.lnt, p.len, p.le⟩
theorem SGo.hd {r : R α} {G : GG α} (h : ∀ b, Hd1 b → Hd b) (g : SGo K TB C Wx Hd H W O ρ σ r G) : SGo K TB C Wx Hd1 H W O ρ σ r G := by
  cases r with
  | ok a ρ' => exact fun σ' H' O' p en => g σ' H' O' (p.hd h) en
  | exc c x => exact g
  | bad => exact g
/-- an expression's part, first, at any held set -/
theorem SGo.firstE' {γ : Type} {k : Kd K σ α γ} {r : R α} {f : α → Env → R β} {G : GG β} {Q1 : γ → Hp → Prop} (g : SGo K TB C Wx Hd H W O ρ σ (r.bind f) G)
    (h : ∀ a ρ1 b H1 O1, r = .ok a ρ1 → Post H O ρ H1 O1 ρ1 → k.VP (nw H O ρ) W a H1 O1 ρ1 b → SGo K TB C Wx Hd H W O ρ σ (f a ρ1) G → Q1 b H1) : Go TB C Wx k H W O ρ r Q1 := by
  cases r with
  | ok x ρ1 => exact fun b H1 O1 p v => h x ρ1 b H1 O1 rfl p v g
  | exc c x => exact g
  | bad => exact g
theorem giv_shared : ∀ l : List T, giv (shared l) = some l
  | [] => rfl
  | t :: r => by
    show optBind (giv1 ⟨t, .s⟩) (fun t => optBind (giv (shared r)) fun l => some (t :: l)) = _
    rw [giv_shared r]; rfl
theorem tupT_some {t : T} {l : List T} (h : tupT t = some l) : t = .tup l := by
  cases t with
  | tup x => cases h; rfl
  | _ => cases h
theorem sem_tt {n : Nat} {rl : List TK → Env → R Unit} {v : V} {Q : L2.St → Hp → Prop} (g : tG K TB C Wx (ttK n rl) v σ H Q) : gTup K n (tGs K TB C Wx rl) v σ H Q := by
  obtain ⟨Nw, W, O, ρ, x, vp, g⟩ := g
  have g : SGo K TB C Wx (held x v) H W O ρ σ (match tupT (val ρ x) with | some l => cond (Nat.beq l.length n) (rl (shared l) ρ) .bad | none => .bad) (fun _ σ' H' _ _ => Q σ' H') := g
  cases e : tupT (val ρ x) with
  | none => rw [e] at g; exact g.elim
  | some l =>
    rw [e] at g
    have g : SGo K TB C Wx (held x v) H W O ρ σ (cond (Nat.beq l.length n) (rl (shared l) ρ) .bad) (fun _ σ' H' _ _ => Q σ' H') := g
    cases e2 : Nat.beq l.length n with
    | false => rw [e2] at g; exact g.elim
    | true =>
      rw [e2] at g
      have g : SGo K TB C Wx (held x v) H W O ρ σ (rl (shared l) ρ) (fun _ σ' H' _ _ => Q σ' H') := g
      have rd := vp.read
      rw [tupT_some e] at rd
      obtain ⟨a, vs, rfl, hq, r⟩ := rd.tup
      have r : Reps K H (NG W O) l vs := r.weak (ng_mono heldW_le)
      refine ⟨a, vs, rfl, hq, by rw [← r.length]; exact Nat.beq_eq.mp e2, H, O, ρ, σ, W, O, ρ, shared l, [], .of Post.refl, ⟨.nil, (fun _ z => by cases z), (fun _ z => by cases z), vp.env.drop uni_nil, ?_⟩, ⟨l, giv_shared l⟩, g.hd no1_any⟩
      have h := VL.app (σ := σ) (ρ := ρ) (N := NG (uni W []) O) (r.weak (ng_mono uni_nil)) .nil
      rw [List.append_nil, List.append_nil] at h
      exact h
theorem VPost.giv1 {Nw : Addr → Prop} {x : TK} {v : V} (h : VPost K TB Nw H W O σ ρ x v) (p : Post H O ρ H1 O1 ρ1) {t : T} (e : PB.giv1 x = some t) : Rep K H1 (NG W O1) t v := by
  obtain ⟨u, k⟩ := x
  cases k with
  | s => cases e; exact h.1.post p h.2
  | f =>
    cases e
    obtain ⟨a, rfl, _, ng, r, en⟩ := h
    have r1 := r.post p en fun q => ng (ow_ng q)
    exact (r1.weak (ng_mono fun _ q => .inl q)).leak fun q => ng (ng_own p _ q)
  | p i => cases e
theorem isOw_some {s : Sl} (h : isOw s = true) : ∃ b t, s = .ow b t := by
  cases s with
  | ow b t => exact ⟨b, t, rfl⟩
  | _ => cases h
theorem sem_ts {i : Nat} {ra : EV} {v : V} {Q : L2.St → Hp → Prop} (g : tG K TB C Wx (tsK i ra) v σ H Q) : gSub (tVar i) (tE K TB C Wx ra) (rSt K) v σ H Q := by
  obtain ⟨Nw, W, O, ρ, x, vp, g⟩ := g
  have g : SGo K TB C Wx (held x v) H W O ρ σ (cond (isOw (slotAt ρ i)) ((ra ρ).bind fun y ρ => match giv1 x with | some t => ts1 i (val ρ y) t ρ (slotAt ρ i) | none => .bad) .bad) (fun _ σ' H' _ _ => Q σ' H') := g
  cases ei : isOw (slotAt ρ i) with
  | false => rw [ei] at g; exact g.elim
  | true =>
    rw [ei] at g
    have g : SGo K TB C Wx (held x v) H W O ρ σ ((ra ρ).bind fun y ρ => match giv1 x with | some t => ts1 i (val ρ y) t ρ (slotAt ρ i) | none => .bad) (fun _ σ' H' _ _ => Q σ' H') := g
    obtain ⟨bb, u0, es⟩ := isOw_some ei
    obtain ⟨ad, ea, ev, own⟩ := vp.env.ow es
    refine ⟨.ref ad, ev, _, O, ρ, vp.envH, ?_⟩
    refine Go.shift (W := W) (W1 := heldW W x v) ?_ Post.refl heldW_le
    refine SGo.firstE' (k := kdV K TB σ) g fun y ρ1 w H1 O1 e p vp2 g1 => ?_
    have vp2 : VPost K TB (nw H O ρ) H1 W O1 σ ρ1 y w := vp2
    cases eg : giv1 x with
    | none =>
      have g1 : SGo K TB C Wx (held x v) H W O ρ σ (match giv1 x with | some t => ts1 i (val ρ1 y) t ρ1 (slotAt ρ1 i) | none => .bad) (fun _ σ' H' _ _ => Q σ' H') := g1
      rw [eg] at g1; exact g1.elim
    | some t =>
      have g1 : SGo K TB C Wx (held x v) H W O ρ σ (match giv1 x with | some t => ts1 i (val ρ1 y) t ρ1 (slotAt ρ1 i) | none => .bad) (fun _ σ' H' _ _ => Q σ' H') := g1
      rw [eg] at g1
      have g1 : SGo K TB C Wx (held x v) H W O ρ σ (ts1 i (val ρ1 y) t ρ1 (slotAt ρ1 i)) (fun _ σ' H' _ _ => Q σ' H') := g1
      have rx := vp.giv1 p eg
      have en1 := vp2.env
      cases es1 : slotAt ρ1 i with
      | ow b1 u =>
        rw [es1] at g1
        have g1 : SGo K TB C Wx (held x v) H W O ρ σ (match setT u (val ρ1 y) t with | some u' => .ok () (put ρ1 i (.ow b1 u')) | none => .bad) (fun _ σ' H' _ _ => Q σ' H') := g1
        cases em : setT u (val ρ1 y) t with
        | none => rw [em] at g1; exact g1.elim
        | some u' =>
          rw [em] at g1
          have g1 : SGo K TB C Wx (held x v) H W O ρ σ (.ok () (put ρ1 i (.ow b1 u'))) (fun _ σ' H' _ _ => Q σ' H') := g1
          obtain ⟨ad', ea', ev', own'⟩ := en1.ow es1
          have : ad' = ad := by rw [ev] at ev'; cases ev'; rfl
          subst this
          refine ⟨NG W O1, ad', u, val ρ1 y, t, u', rfl, .inr ⟨i, ea'⟩, own', vp2.read.weak (ng_mono heldW_le), rx, em, fun H' up r' => ?_⟩
          obtain ⟨k1, k2⟩ := en1.mut es1 ea' up r'
          exact g1 σ H' O1 (.of (p.trans k2)) k1
      | _ => rw [es1] at g1; exact g1.elim
/-! ### statements -/
def FG (K : PySem.W.Frag) (TB : List (Addr × Str)) (Nw : Addr → Prop) (W : Addr → Prop) (D : Ends) : GG PB.Flow := fun fl σ' H' O' ρ' => match fl with
  | .next => D.nx σ' H'
  | .ret t k => ∀ v, VPost K TB Nw H' W O' σ' ρ' ⟨t, k⟩ v → D.rt v H'
theorem FG.mono {Nw Nw1 : Addr → Prop} {D : Ends} (h1 : ∀ a, Nw1 a → Nw a) (hw : ∀ b, W b → W1 b) : ∀ fl σ' H' O' ρ', FG K TB Nw W D fl σ' H' O' ρ' → FG K TB Nw1 W1 D fl σ' H' O' ρ' := fun fl σ' H' O' ρ' h => by
  cases fl with
  | next => exact h
  | ret t k => exact fun v vp => h v ((kdV K TB σ').shift h1 hw vp)
def tS (K : PySem.W.Frag) (TB : List (Addr × Str)) (C : CT) (Wx : WX) (r : ES) : TS := fun D σ H => ∃ W O ρ, EnvRep K TB H W O σ ρ ∧ SGo K TB C Wx no1 H W O ρ σ (r ρ) (FG K TB (nw H O ρ) W D)
/-- later in the same body -/
theorem tS.later {r : ES} {D : Ends} (en : EnvRep K TB H1 W O1 σ1 ρ1) (p : SPost no1 H O ρ σ H1 O1 ρ1 σ1) (g : SGo K TB C Wx no1 H W O ρ σ (r ρ1) (FG K TB (nw H O ρ) W D)) : tS K TB C Wx r D σ1 H1 :=
  ⟨W, O1, ρ1, en, g.shift p no1_any (fun _ q => q) (FG.mono (fun _ => p.nw) fun _ q => q)⟩
theorem sem_skip {D : Ends} (g : tS K TB C Wx skipK D σ H) : D.nx σ H := by
  obtain ⟨W, O, ρ, en, g⟩ := g
  exact g σ H O (.of Post.refl) en
theorem sem_sq {ra rb : ES} {D : Ends} (g : tS K TB C Wx (sqK ra rb) D σ H) : tSeq (tS K TB C Wx ra) (tS K TB C Wx rb) D σ H := by
  obtain ⟨W, O, ρ, en, g⟩ := g
  refine ⟨W, O, ρ, en, SGo.first g fun fl ρ1 σ1 H1 O1 e p en1 g1 => ?_⟩
  cases fl with
  | next => exact tS.later en1 p g1
  | ret t k => exact fun v vp => g1 σ1 H1 O1 p en1 v vp
theorem sem_ex {ra : EV} {D : Ends} (g : tS K TB C Wx (exK ra) D σ H) : tDrop (tE K TB C Wx ra) D σ H := by
  obtain ⟨W, O, ρ, en, g⟩ := g
  refine ⟨W, O, ρ, en, SGo.firstE g fun x ρ1 v H1 O1 e p vp g1 => ?_⟩
  have vp : VPost K TB (nw H O ρ) H1 W O1 σ ρ1 x v := vp
  exact g1 σ H1 O1 (.of p) vp.env
theorem sem_ret {ra : EV} {D : Ends} (g : tS K TB C Wx (retK ra) D σ H) : tRet (tE K TB C Wx ra) D σ H := by
  obtain ⟨W, O, ρ, en, g⟩ := g
  refine ⟨W, O, ρ, en, SGo.firstE g fun x ρ1 v H1 O1 e p vp g1 => ?_⟩
  have vp : VPost K TB (nw H O ρ) H1 W O1 σ ρ1 x v := vp
  obtain ⟨t, k⟩ := x
  cases k with
  | s => exact g1 σ H1 O1 (.of p) vp.env v vp
  | f => exact g1 σ H1 O1 (.of p) vp.env v vp
  | p i => exact g1.elim
theorem EnvRep.drop1 {i : Nat} {t : T} {a : Addr} (h : EnvRep K TB H W O σ ρ) (e : slotAt ρ i = .ow false t) (ea : O i = some a) :
    EnvRep K TB H (plus W a) (setO O i none) σ (put ρ i .no) ∧ OwnRep K H (NG (plus W a) (setO O i none)) t a ∧ ¬ NG W (setO O i none) a ∧ SPost Hd H O ρ σ H (setO O i none) (put ρ i .no) σ := by
  obtain ⟨a', e1, ev, r⟩ := h.ow e
  rw [ea] at e1
  cases e1
  have hi : i < ρ.length := slot_lt (by rw [e]; nofun)
  have sub : ∀ b, NG (plus W a) (setO O i none) b → NG W O b := fun b q => by
    rcases q with (q | q) | ⟨j, q⟩
    · exact .inl q
    · subst q; exact .inr ⟨i, ea⟩
    · by_cases c : j = i
      · subst c; rw [setO_same] at q; cases q
      · rw [setO_ne c] at q; exact .inr ⟨j, q⟩
  refine ⟨h.upd1 rfl (fun j c => (h.sl j).weak sub) rfl hi (fun _ z => by cases z) (fun j b c q => ?_) (fun b w => ?_) h.tab, r.weak sub, fun q => ?_, ⟨fun j b q => ?_, fun b o q _ _ => q, fun b o q z => ⟨o, q, z⟩, fun b q => ?_, fun j q => ?_, rfl, fun j u q => ?_⟩⟩
  · rintro (w | w)
    · exact h.out j b q w
    · subst w; exact c (h.inj j i b q ea)
  · rcases w with w | w
    · exact h.wt b w
    · subst w; exact r.thereN
  · rcases q with q | ⟨j, q⟩
    · exact h.out i a ea q
    · by_cases c : j = i
      · subst c; rw [setO_same] at q; cases q
      · rw [setO_ne c] at q; exact c (h.inj j i a q ea)
  · by_cases c : j = i
    · subst c; rw [setO_same] at q; cases q
    · rw [setO_ne c] at q; exact .inl ⟨j, q⟩
  · obtain ⟨j, bb, u, q1, q2⟩ := q
    by_cases c : j = i
    · subst c; rw [setO_same] at q1; cases q1
    · rw [setO_ne c] at q1
      rw [slot_put_ne ρ _ (Ne.symm c)] at q2
      exact .inl ⟨j, bb, u, q1, q2⟩
  · have c : j ≠ i := fun c => by subst c; rw [e] at q; cases q
    rw [slot_put_ne ρ _ (Ne.symm c), setO_ne c]
    exact ⟨rfl, q, fun _ h => h⟩
  · have c : j ≠ i := fun c => by subst c; rw [e] at q; cases q
    rw [slot_put_ne ρ _ (Ne.symm c), setO_ne c]
    exact ⟨q, rfl⟩
theorem sem_rtv {i : Nat} {D : Ends} (g : tS K TB C Wx (rtvK i) D σ H) : tRet (tVar i) D σ H := by
  obtain ⟨W, O, ρ, en, g⟩ := g
  have g : SGo K TB C Wx no1 H W O ρ σ (rtv1 i ρ (slotAt ρ i)) (FG K TB (nw H O ρ) W D) := g
  have q := en.sl i
  cases e : slotAt ρ i with
  | no => rw [e] at g; exact g.elim
  | le t => rw [e] at g; exact g.elim
  | sh t =>
    rw [e] at g q
    obtain ⟨_, v, ev, r⟩ := q
    exact ⟨v, ev, g σ H O (.of Post.refl) en v ⟨r, en⟩⟩
  | fz t =>
    rw [e] at g q
    obtain ⟨_, v, ev, r⟩ := q
    exact ⟨v, ev, g σ H O (.of Post.refl) en v ⟨r, en⟩⟩
  | ow bb t =>
    rw [e] at g
    obtain ⟨a, ea, ev, r⟩ := en.ow e
    cases bb with
    | true =>
      obtain ⟨k1, k2, k3⟩ := en.leak (s := .fz t) e ea rfl
      exact ⟨_, ev, g σ H _ (.of k3) k1 _ ⟨k2, k1⟩⟩
    | false =>
      obtain ⟨k1, k2, k3, k4⟩ := en.drop1 (Hd := no1) e ea
      exact ⟨_, ev, g σ H _ k4 (k1.drop fun _ q => .inl q) _ ⟨a, rfl, .inr ⟨i, false, t, ea, e⟩, k3, k2, k1⟩⟩
theorem sem_asg {rt : EA} {ra : EV} {D : Ends} (g : tS K TB C Wx (asgK rt ra) D σ H) : tAsg (tE K TB C Wx ra) (tG K TB C Wx rt) D σ H := by
  obtain ⟨W, O, ρ, en, g⟩ := g
  refine ⟨W, O, ρ, en, SGo.firstE g fun x ρ1 v H1 O1 e p vp g1 => ?_⟩
  have vp : VPost K TB (nw H O ρ) H1 W O1 σ ρ1 x v := vp
  refine ⟨_, W, O1, ρ1, x, vp, ?_⟩
  have hd : ∀ b, held x v b → nw H O ρ b := fun b ⟨q1, q2⟩ => by
    obtain ⟨t, k⟩ := x
    cases q1
    obtain ⟨a, ea, hn, _⟩ := vp
    rw [q2] at ea
    cases ea
    exact hn
  have g2 : SGo K TB C Wx no1 H W O ρ σ (rt x ρ1) (fun _ σ' H' _ _ => D.nx σ' H') := SGo.first g1 fun _ ρ2 σ2 H2 O2 e2 p2 en2 g2 => g2 σ2 H2 O2 p2 en2
  exact g2.shift (.of p) hd (fun _ q => q) fun _ _ _ _ _ q => q
theorem sem_if {rc : Env → R Bool} {ra rb : ES} {D : Ends} (g : tS K TB C Wx (iteK rc ra rb) D σ H) : tIfS (tT K TB C Wx rc) (tS K TB C Wx ra) (tS K TB C Wx rb) D σ H := by
  obtain ⟨W, O, ρ, en, g⟩ := g
  refine ⟨W, O, ρ, en, SGo.firstE (k := kdP K TB σ Bool) g fun b ρ1 b' H1 O1 e p vp g1 => ?_⟩
  obtain ⟨eb, en1⟩ := vp
  subst eb
  cases b' with
  | true => rw [if_pos rfl]; exact tS.later (ρ := ρ) en1 (.of p) g1
  | false => rw [if_neg (by decide)]; exact tS.later (ρ := ρ) en1 (.of p) g1
theorem intSl_some {s : Sl} {x : T} (h : intSl s = some x) : ∃ i, s = .sh (.int i) ∧ x = .int i := by
  cases s with
  | sh t =>
    cases t with
    | int i => cases h; exact ⟨i, rfl, rfl⟩
    | _ => cases h
  | _ => cases h
theorem sem_aug {i : Nat} {o : PB.O2} {ra : EV} {D : Ends} {f : Int → Int → Int} (ho : ∀ x y r, op2 o (.int x) y = some r → ∀ z, intTK r = some z → ∃ j, y = .int j ∧ z = .int (f x j)) (g : tS K TB C Wx (augK i o ra) D σ H) : tAug i (tE K TB C Wx ra) (ipI f) D σ H := by
  obtain ⟨W, O, ρ, en, g⟩ := g
  have g : SGo K TB C Wx no1 H W O ρ σ (match intSl (slotAt ρ i) with | some x => (ra ρ).bind fun y ρ => (match optBind (op2 o x (val ρ y)) intTK with | some r => cond (mayStore (slotAt ρ i)) (.ok .next (put ρ i (.sh r))) .bad | none => .bad) | none => .bad) (FG K TB (nw H O ρ) W D) := g
  cases e : intSl (slotAt ρ i) with
  | none => rw [e] at g; exact g.elim
  | some x =>
    rw [e] at g
    have g : SGo K TB C Wx no1 H W O ρ σ ((ra ρ).bind fun y ρ => (match optBind (op2 o x (val ρ y)) intTK with | some r => cond (mayStore (slotAt ρ i)) (.ok .next (put ρ i (.sh r))) .bad | none => .bad)) (FG K TB (nw H O ρ) W D) := g
    obtain ⟨n, es, rfl⟩ := intSl_some e
    have q := en.sl i
    rw [es] at q
    obtain ⟨_, v, ev, r⟩ := q
    cases r
    refine ⟨.int n, ev, W, O, ρ, en, SGo.firstE g fun y ρ1 w H1 O1 e p vp g1 => ?_⟩
    have vp : VPost K TB (nw H O ρ) H1 W O1 σ ρ1 y w := vp
    cases eo : optBind (op2 o (.int n) (val ρ1 y)) intTK with
    | none =>
      have g1 : SGo K TB C Wx no1 H W O ρ σ (match optBind (op2 o (.int n) (val ρ1 y)) intTK with | some r => cond (mayStore (slotAt ρ1 i)) (.ok .next (put ρ1 i (.sh r))) .bad | none => .bad) (FG K TB (nw H O ρ) W D) := g1
      rw [eo] at g1; exact g1.elim
    | some z =>
      have g1 : SGo K TB C Wx no1 H W O ρ σ (match optBind (op2 o (.int n) (val ρ1 y)) intTK with | some r => cond (mayStore (slotAt ρ1 i)) (.ok .next (put ρ1 i (.sh r))) .bad | none => .bad) (FG K TB (nw H O ρ) W D) := g1
      rw [eo] at g1
      obtain ⟨rr, e1, e2⟩ := optBind_some eo
      obtain ⟨j, ej, ez⟩ := ho _ _ _ e1 _ e2
      subst ez
      have rd := vp.read
      rw [ej] at rd
      refine ⟨n, j, rfl, rd.int, ?_⟩
      have g1 : SGo K TB C Wx no1 H W O ρ σ (cond (mayStore (slotAt ρ1 i)) (.ok .next (put ρ1 i (.sh (.int (f n j))))) .bad) (FG K TB (nw H O ρ) W D) := g1
      have hi : i < ρ1.length := slot_lt (p.ne i (by rw [es]; nofun))
      cases ms1 : mayStore (slotAt ρ1 i) with
      | false => rw [ms1] at g1; exact g1.elim
      | true =>
        rw [ms1] at g1
        exact g1 _ H1 _ ((SPost.of p).trans (spost_set (Hd := no1) ms1 (fun _ z => by cases z) (fun _ _ z => by cases z)) no1_any) (vp.env.setSh (.int _) hi)
end
end PB
end

section
set_option Elab.async false
set_option linter.all false
set_option maxRecDepth 100000
set_option maxHeartbeats 4000000
/-! Sound14: lending, loops, what is walked. -/
namespace PB
open PySem PySem.Spec PyProof.Rows L2
theorem memN_mem : ∀ {i : Nat} {l : List Nat}, memN i l = true ↔ i ∈ l
  | i, [] => by simp [memN]
  | i, j :: r => by
    show cond (Nat.beq i j) true (memN i r) = true ↔ _
    cases e : Nat.beq i j with
    | true =>
      have := Nat.beq_eq.mp e
      subst this
      simp
    | false =>
      have : i ≠ j := fun h => by subst h; rw [Nat.beq_refl] at e; cases e
      simp only [cond_false, List.mem_cons, this, false_or]
      exact memN_mem
theorem lend1_idem (s : Sl) : lend1 (lend1 s) = lend1 s := by cases s <;> rfl
theorem lend_length : ∀ (pk : List Nat) (ρ : Env), (lend pk ρ).length = ρ.length
  | [], _ => rfl
  | i :: r, ρ => by
    show (lend r (put ρ i (lend1 (slotAt ρ i)))).length = _
    rw [lend_length r, put_length]
theorem slot_put_self (ρ : Env) (i j : Nat) (f : Sl → Sl) (hf : f .no = .no) : slotAt (put ρ i (f (slotAt ρ i))) j = if i = j then f (slotAt ρ j) else slotAt ρ j := by
  by_cases c : i = j
  · subst c
    rw [if_pos rfl]
    rcases slot_put_any ρ (i := i) (f (slotAt ρ i)) with h | ⟨h, hl⟩
    · exact h
    · rw [h]
      have : slotAt ρ i = .no := by
        cases e : slotAt ρ i with
        | no => rfl
        | _ => exact absurd (slot_lt (ρ := ρ) (i := i) (by rw [e]; nofun)) (Nat.not_lt.mpr hl)
      rw [this, hf]
  · rw [if_neg c, slot_put_ne ρ _ c]
theorem lend_at : ∀ (pk : List Nat) (ρ : Env) (j : Nat), slotAt (lend pk ρ) j = if j ∈ pk then lend1 (slotAt ρ j) else slotAt ρ j
  | [], ρ, j => by simp [lend]
  | i :: r, ρ, j => by
    show slotAt (lend r (put ρ i (lend1 (slotAt ρ i)))) j = _
    rw [lend_at r, slot_put_self ρ i j lend1 rfl]
    by_cases c : i = j
    · subst c
      rw [if_pos rfl, lend1_idem]
      simp
    · rw [if_neg c]
      have : (j ∈ i :: r) ↔ j ∈ r := by simp [Ne.symm c]
      simp only [this]
theorem unlend1_at (i : Nat) (ρ : Env) (s : Sl) (j : Nat) : slotAt (unlend1 i ρ s) j = slotAt ρ j ∨ (i = j ∧ ∃ b t, s = .ow b t ∧ slotAt (unlend1 i ρ s) j = slotAt (put ρ i (.ow b t)) j) := by
  cases s with
  | ow b t =>
    by_cases c : i = j
    · exact .inr ⟨c, b, t, rfl, rfl⟩
    · exact .inl (slot_put_ne ρ _ c)
  | _ => exact .inl rfl
theorem unlend1_length (i : Nat) (ρ : Env) (s : Sl) : (unlend1 i ρ s).length = ρ.length := by
  cases s with
  | ow b t => exact put_length ρ i _
  | _ => rfl
theorem unlend_length : ∀ (ρ₀ : Env) (pk : List Nat) (ρ : Env), (unlend ρ₀ pk ρ).length = ρ.length
  | _, [], _ => rfl
  | ρ₀, i :: r, ρ => by
    show (unlend ρ₀ r (unlend1 i ρ (slotAt ρ₀ i))).length = _
    rw [unlend_length ρ₀ r, unlend1_length]
theorem unlend_at (ρ₀ : Env) : ∀ (pk : List Nat) (ρ : Env), ρ₀.length = ρ.length → ∀ j, slotAt (unlend ρ₀ pk ρ) j = slotAt ρ j ∧ (∀ b t, slotAt ρ₀ j = .ow b t → j ∉ pk ∨ slotAt ρ j = .ow b t) ∨ (j ∈ pk ∧ ∃ b t, slotAt ρ₀ j = .ow b t ∧ slotAt (unlend ρ₀ pk ρ) j = .ow b t)
  | [], ρ, _, j => .inl ⟨rfl, fun b t e => .inl (by simp)⟩
  | i :: r, ρ, hl, j => by
    have ih := unlend_at ρ₀ r (unlend1 i ρ (slotAt ρ₀ i)) (by rw [unlend1_length]; exact hl) j
    show (slotAt (unlend ρ₀ r (unlend1 i ρ (slotAt ρ₀ i))) j = slotAt ρ j ∧ _) ∨ _
    rcases ih with ⟨ih, ih2⟩ | ⟨hm, b, t, e1, e2⟩
    · by_cases c : i = j
      · subst c
        cases e : slotAt ρ₀ i with
        | ow b t =>
          refine .inr ⟨List.mem_cons_self, b, t, rfl, ?_⟩
          show slotAt (unlend ρ₀ r (unlend1 i ρ (slotAt ρ₀ i))) i = _
          rw [ih, e]
          show slotAt (put ρ i (.ow b t)) i = _
          exact slot_put ρ _ (by rw [← hl]; exact slot_lt (by rw [e]; nofun))
        | _ =>
          rw [e] at ih
          refine .inl ⟨?_, fun b t z => by cases z⟩
          exact ih
      · have e0 : slotAt (unlend1 i ρ (slotAt ρ₀ i)) j = slotAt ρ j := by
          rcases unlend1_at i ρ (slotAt ρ₀ i) j with h | ⟨h, _⟩
          · exact h
          · exact absurd h c
        refine .inl ⟨by rw [ih, e0], fun b t z => ?_⟩
        rcases ih2 b t z with q | q
        · exact .inl (by simp only [List.mem_cons, not_or]; exact ⟨Ne.symm c, q⟩)
        · rw [e0] at q; exact .inr q
    · exact .inr ⟨List.mem_cons_of_mem _ hm, b, t, e1, e2⟩
section
variable {K : PySem.W.Frag} {TB : List (Addr × Str)} {C : CT} {Wx : WX}
variable {H H' H1 H2 : Hp} {W W' W1 : Addr → Prop} {O O' O1 O2 : OA} {ρ ρ' ρ1 ρ2 : Env} {σ σ' σ1 σ2 : L2.St} {Hd Hd1 : Addr → Prop}
variable {α β : Type} {pk : List Nat}
theorem lend1_cases (s : Sl) : lend1 s = s ∨ ∃ b t, s = .ow b t ∧ lend1 s = .le t := by
  cases s with
  | ow b t => exact .inr ⟨b, t, rfl, rfl⟩
  | _ => exact .inl rfl
theorem lend_slot (pk : List Nat) (ρ : Env) (i : Nat) : slotAt (lend pk ρ) i = slotAt ρ i ∨ (i ∈ pk ∧ ∃ b t, slotAt ρ i = .ow b t ∧ slotAt (lend pk ρ) i = .le t) := by
  rw [lend_at]
  by_cases c : i ∈ pk
  · rw [if_pos c]
    rcases lend1_cases (slotAt ρ i) with h | ⟨b, t, h1, h2⟩
    · exact .inl h
    · exact .inr ⟨c, b, t, h1, h2⟩
  · rw [if_neg c]; exact .inl rfl
theorem EnvRep.lend (h : EnvRep K TB H W O σ ρ) (pk : List Nat) : EnvRep K TB H W O σ (PB.lend pk ρ) :=
  ⟨(lend_length pk ρ).trans h.len, fun i => by
    have q := h.sl i
    rcases lend_slot pk ρ i with e | ⟨_, b, t, e1, e2⟩
    · rw [e]; exact q
    · rw [e1] at q; rw [e2]; exact q, h.inj, h.out, h.wt, h.tab⟩
theorem ow_lend {b : Addr} (h : Ow O (lend pk ρ) b) : Ow O ρ b := by
  obtain ⟨i, bb, t, e1, e2⟩ := h
  rcases lend_slot pk ρ i with e | ⟨_, b', t', e3, e4⟩
  · rw [e] at e2; exact ⟨i, bb, t, e1, e2⟩
  · rw [e4] at e2; cases e2
theorem nw_lend {a : Addr} (h : nw H O (lend pk ρ) a) : nw H O ρ a := h.imp id ow_lend
/-- a lent slot stays what it was -/
theorem lent_stays (p : SPost no1 H O (lend pk ρ) σ H' O' ρ' σ') {i : Nat} {b : Bool} {t : T} (hi : i ∈ pk) (e : slotAt ρ i = .ow b t) : slotAt ρ' i = .le t ∧ O' i = O i := by
  refine p.le i t ?_
  rw [lend_at, if_pos hi, e]; rfl
theorem unl_slot (en : EnvRep K TB H W O σ ρ) (p : SPost no1 H O (lend pk ρ) σ H' O' ρ' σ') (en' : EnvRep K TB H' W' O' σ' ρ') (i : Nat) :
    slotAt (unlend ρ pk ρ') i = slotAt ρ' i ∨ (i ∈ pk ∧ ∃ b t, slotAt ρ i = .ow b t ∧ slotAt ρ' i = .le t ∧ O' i = O i ∧ slotAt (unlend ρ pk ρ') i = .ow b t) := by
  have hl : ρ.length = ρ'.length := by rw [en.len, en'.len, p.len]
  rcases unlend_at ρ pk ρ' hl i with ⟨h, _⟩ | ⟨hm, b, t, e1, e2⟩
  · exact .inl h
  · obtain ⟨z1, z2⟩ := lent_stays p hm e1
    exact .inr ⟨hm, b, t, e1, z1, z2, e2⟩
theorem EnvRep.unlend (en : EnvRep K TB H W O σ ρ) (p : SPost no1 H O (PB.lend pk ρ) σ H' O' ρ' σ') (en' : EnvRep K TB H' W' O' σ' ρ') : EnvRep K TB H' W' O' σ' (PB.unlend ρ pk ρ') :=
  ⟨(unlend_length ρ pk ρ').trans en'.len, fun i => by
    have q := en'.sl i
    rcases unl_slot en p en' i with e | ⟨_, b, t, e1, e2, _, e3⟩
    · rw [e]; exact q
    · rw [e2] at q; rw [e3]; exact q, en'.inj, en'.out, en'.wt, en'.tab⟩
theorem SPost.unlend (en : EnvRep K TB H W O σ ρ) (p : SPost no1 H O (PB.lend pk ρ) σ H' O' ρ' σ') (en' : EnvRep K TB H' W' O' σ' ρ') : SPost no1 H O ρ σ H' O' (PB.unlend ρ pk ρ') σ' where
  own := p.own
  keep := fun b o e n z => p.keep b o e (fun q => n (ow_lend q)) z
  per := p.per
  ow := fun b ⟨i, bb, t, e1, e2⟩ => by
    rcases unl_slot en p en' i with e | ⟨_, b', t', z1, z2, z3, z4⟩
    · rw [e] at e2
      exact (p.ow b ⟨i, bb, t, e1, e2⟩).imp ow_lend id
    · rw [z3] at e1
      exact .inl ⟨i, b', t', e1, z1⟩
  lnt := fun i e => by
    rcases unl_slot en p en' i with z | ⟨hm, b, t, z1, z2, z3, z4⟩
    · rw [z]
      refine p.lnt i ?_
      rcases lend_slot pk ρ i with q | ⟨_, b, t, q1, q2⟩
      · rw [q]; exact e
      · rw [q2]; rfl
    · have hm' : mayStore (slotAt (PB.lend pk ρ) i) = false := by rw [lend_at, if_pos hm, z1]; rfl
      obtain ⟨y1, y2, y3⟩ := p.lnt i hm'
      refine ⟨y1, ?_, y3⟩
      rw [z4]
      rw [z1] at e
      exact e
  len := p.len
  le := fun i t e => by
    have nh : slotAt (PB.lend pk ρ) i = .le t := by
      rcases lend_slot pk ρ i with q | ⟨_, b, u, q1, q2⟩
      · rw [q]; exact e
      · rw [e] at q1; cases q1
    obtain ⟨y1, y2⟩ := p.le i t nh
    rcases unl_slot en p en' i with z | ⟨hm, b, u, z1, _⟩
    · rw [z]; exact ⟨y1, y2⟩
    · rw [e] at z1; cases z1
theorem VPost.env' {Nw : Addr → Prop} {x : TK} {v : V} (h : VPost K TB Nw H W O σ ρ x v) (hρ : ∀ {W'}, (∀ b, W b → W' b) → EnvRep K TB H W' O σ ρ → EnvRep K TB H W' O σ ρ1) (hn : ∀ i, slotAt ρ i ≠ .no → slotAt ρ1 i ≠ .no) : VPost K TB Nw H W O σ ρ1 x v := by
  obtain ⟨t, k⟩ := x
  cases k with
  | s => exact ⟨h.1, hρ (fun _ q => q) h.2⟩
  | f =>
    obtain ⟨a, e, n, ng, r, en⟩ := h
    exact ⟨a, e, n, ng, r, hρ (fun _ q => .inl q) en⟩
  | p i => exact ⟨h.1, hn i h.2.1, hρ (fun _ q => q) h.2.2⟩
/-- a loop's body runs while things are lent -/
theorem SGo.unlend {r : R PB.Flow} {D : Ends} (en : EnvRep K TB H W O σ ρ) (g : SGo K TB C Wx no1 H W O ρ σ (r.mapEnv (PB.unlend ρ pk)) (FG K TB (nw H O ρ) W D)) : SGo K TB C Wx no1 H W O (PB.lend pk ρ) σ r (FG K TB (nw H O (PB.lend pk ρ)) W D) := by
  cases r with
  | ok fl ρ' =>
    intro σ' H' O' p en'
    have h := g σ' H' O' (p.unlend en en') (en.unlend p en')
    cases fl with
    | next => exact h
    | ret t k =>
      intro v vp
      refine h v (VPost.env' ((kdV K TB σ').shift (fun _ q => nw_lend q) (fun _ q => q) vp) (fun _ e => en.unlend p e) fun i ne => ?_)
      rcases unl_slot en p en' i with e | ⟨_, b, t, _, _, _, e⟩
      · rw [e]; exact ne
      · rw [e]; nofun
  | exc c x => exact fun cls d σ' H' xp => g cls d σ' H' ⟨xp.cls, xp.pay, fun b o e n z => xp.keep b o e (fun q => n (ow_lend q)) z, xp.tab, xp.per⟩
  | bad => exact g
/-! ### what is walked -/
/-- J walks the items, wherever the things that are not owned stand as at H -/
def ItOk (K : PySem.W.Frag) (H : Hp) (B N : Addr → Prop) (items : List T) (J : It) : Prop :=
  ∀ H' N', (∀ b o, H b = some o → ¬ B b → nt o → H' b = some o) → (∀ b o, H b = some o → (∃ xs, o = .tup xs ∨ ∃ ob, o = .frz ob (.tup xs)) → H' b = some o) → (∀ b, N' b → N b ∨ nn H b) →
    (∀ i, items.length ≤ i → J.stop i H') ∧ ∀ i t, items[i]? = some t → J.go i H' ∧ ∀ x H'', J.yld i H' x H'' → Grow H' H'' ∧ Rep K H'' N' t x
theorem ItOk.list {a : Addr} {ts : List T} {vs : List V} {B N : Addr → Prop} (hB : ∀ b, B b → N b) (h : H a = some (.lst vs)) (na : ¬ B a) (r : Reps K H N ts vs) : ItOk K H B N ts (Itl K a) := by
  intro H' N' k kt hn
  have h' : H' a = some (.lst vs) := k _ _ h na (fun _ z => by cases z)
  have r' : Reps K H' N' ts vs := r.keep (fun b o e n z => k b o e (fun q => n (hB b q)) z) kt hn
  have q : SqL K H' a vs := SqL.of h'
  refine ⟨fun i hi => ⟨vs, q, by rw [← r.length]; exact hi⟩, fun i t e => ?_⟩
  obtain ⟨v, hv, rv⟩ := r'.get e
  refine ⟨⟨vs, v, q, hv⟩, fun x H'' ⟨e1, e2⟩ => ?_⟩
  subst e1
  have := e2 vs q
  rw [hv] at this
  cases this
  exact ⟨Grow.refl, rv⟩
theorem ItOk.tup {a : Addr} {ts : List T} {vs : List V} {B N : Addr → Prop} (hB : ∀ b, B b → N b) (h : SqT K H a vs) (r : Reps K H N ts vs) : ItOk K H B N ts (Itt K a) := by
  intro H' N' k kt hn
  have q : SqT K H' a vs := sqT_keep kt h
  have r' : Reps K H' N' ts vs := r.keep (fun b o e n z => k b o e (fun q => n (hB b q)) z) kt hn
  refine ⟨fun i hi => ⟨vs, q, by rw [← r.length]; exact hi⟩, fun i t e => ?_⟩
  obtain ⟨v, hv, rv⟩ := r'.get e
  refine ⟨⟨vs, v, q, hv⟩, fun x H'' ⟨e1, e2⟩ => ?_⟩
  subst e1
  have := e2 vs q
  rw [hv] at this
  cases this
  exact ⟨Grow.refl, rv⟩
theorem rangeL_at : ∀ (n : Nat) (lo : Int) (i : Nat), (rangeL lo n)[i]? = if i < n then some (.int (lo + i)) else none
  | 0, lo, i => by simp [rangeL]
  | n + 1, lo, 0 => by simp [rangeL]
  | n + 1, lo, i + 1 => by
    show (rangeL (lo + 1) n)[i]? = _
    rw [rangeL_at n]
    have : lo + 1 + (i : Int) = lo + ((i + 1 : Nat) : Int) := by omega
    rw [this]
    simp only [Nat.add_lt_add_iff_right]
theorem rangeL_len : ∀ (n : Nat) (lo : Int), (rangeL lo n).length = n
  | 0, _ => rfl
  | n + 1, lo => by show (rangeL (lo + 1) n).length + 1 = _; rw [rangeL_len n]
theorem ItOk.range {lo : Int} {n : Nat} {B N : Addr → Prop} : ItOk K H B N (rangeL lo n) (Itr lo n) := by
  intro H' N' k kt hn
  refine ⟨fun i hi => by rw [rangeL_len] at hi; exact hi, fun i t e => ?_⟩
  rw [rangeL_at] at e
  split at e
  · rename_i hi
    cases e
    refine ⟨hi, fun x H'' ⟨e1, e2⟩ => ?_⟩
    subst e1 e2
    exact ⟨Grow.refl, .int _⟩
  · cases e
theorem enumL_at : ∀ (l : List T) (n i : Nat), (enumL n l)[i]? = (l[i]?).map fun t => .tup [.int ((n + i : Nat) : Int), t]
  | [], n, i => by simp [enumL]
  | x :: r, n, 0 => by simp [enumL]
  | x :: r, n, i + 1 => by
    show (enumL (n + 1) r)[i]? = _
    rw [enumL_at r]
    have : n + 1 + i = n + (i + 1) := by omega
    rw [this]
    simp
theorem enumL_len : ∀ (l : List T) (n : Nat), (enumL n l).length = l.length
  | [], _ => rfl
  | x :: r, n => by show (enumL (n + 1) r).length + 1 = _; rw [enumL_len r]; rfl
theorem ItOk.enum {a : Addr} {ts : List T} {vs : List V} {B N : Addr → Prop} (hB : ∀ b, B b → N b) (h : H a = some (.lst vs)) (na : ¬ B a) (r : Reps K H N ts vs) : ItOk K H B N (enumL 0 ts) (Ite K a) := by
  intro H' N' k kt hn
  have h' : H' a = some (.lst vs) := k _ _ h na (fun _ z => by cases z)
  have r' : Reps K H' N' ts vs := r.keep (fun b o e n z => k b o e (fun q => n (hB b q)) z) kt hn
  have q : SqL K H' a vs := SqL.of h'
  refine ⟨fun i hi => ⟨vs, q, by rw [enumL_len, r.length] at hi; exact hi⟩, fun i t e => ?_⟩
  rw [enumL_at] at e
  obtain ⟨u, eu, et⟩ := Option.map_eq_some_iff.mp e
  subst et
  obtain ⟨v, hv, rv⟩ := r'.get eu
  refine ⟨⟨vs, v, q, hv⟩, fun x H'' ⟨T, y, e1, e2, e3, e4⟩ => ?_⟩
  subst e1 e3
  have := e4 vs q
  rw [hv] at this
  cases this
  refine ⟨Grow.upd e2, .tup (SqT.of upd_same) (.cons ?_ (.cons (rv.grow (Grow.upd e2)) .nil))⟩
  rw [Nat.zero_add]
  exact .int _
theorem zipL_at : ∀ (l m : List T) (i : Nat) (t : T), (zipL l m)[i]? = some t → ∃ x y, l[i]? = some x ∧ m[i]? = some y ∧ t = .tup [x, y]
  | [], m, i, t, h => by simp [zipL] at h
  | x :: l, [], i, t, h => by simp [zipL] at h
  | x :: l, y :: m, 0, t, h => by cases h; exact ⟨x, y, rfl, rfl, rfl⟩
  | x :: l, y :: m, i + 1, t, h => zipL_at l m i t h
theorem zipL_len : ∀ (l m : List T), (zipL l m).length = min l.length m.length
  | [], m => by simp [zipL]
  | x :: l, [] => by simp [zipL]
  | x :: l, y :: m => by
    show (zipL l m).length + 1 = _
    rw [zipL_len l m, List.length_cons, List.length_cons]
    omega
theorem ItOk.zipl {a b : Addr} {ts us : List T} {vs ws : List V} {B N : Addr → Prop} (hB : ∀ b, B b → N b) (h : H a = some (.lst vs)) (na : ¬ B a) (r : Reps K H N ts vs) (h2 : H b = some (.lst ws)) (nb : ¬ B b) (r2 : Reps K H N us ws) : ItOk K H B N (zipL ts us) (Itz K a b) := by
  intro H' N' k kt hn
  have q : SqL K H' a vs := SqL.of (k _ _ h na (fun _ z => by cases z))
  have q2 : SqL K H' b ws := SqL.of (k _ _ h2 nb (fun _ z => by cases z))
  have r' : Reps K H' N' ts vs := r.keep (fun b o e n z => k b o e (fun q => n (hB b q)) z) kt hn
  have r2' : Reps K H' N' us ws := r2.keep (fun b o e n z => k b o e (fun q => n (hB b q)) z) kt hn
  refine ⟨fun i hi => ⟨vs, ws, q, q2, ?_⟩, fun i t e => ?_⟩
  · rw [zipL_len, r.length, r2.length] at hi
    omega
  · obtain ⟨x, y, e1, e2, et⟩ := zipL_at _ _ _ _ e
    subst et
    obtain ⟨v, hv, rv⟩ := r'.get e1
    obtain ⟨w, hw, rw_⟩ := r2'.get e2
    refine ⟨⟨vs, ws, v, w, q, q2, hv, hw⟩, fun x H'' ⟨T, y, z, e1, e2, e3, e4, e5⟩ => ?_⟩
    subst e1 e3
    have t1 := e4 vs q
    have t2 := e5 ws q2
    rw [hv] at t1
    rw [hw] at t2
    cases t1
    cases t2
    exact ⟨Grow.upd e2, .tup (SqT.of upd_same) (.cons (rv.grow (Grow.upd e2)) (.cons (rw_.grow (Grow.upd e2)) .nil))⟩
theorem ItOk.zipt {a b : Addr} {ts us : List T} {vs ws : List V} {B N : Addr → Prop} (hB : ∀ b, B b → N b) (h : SqT K H a vs) (r : Reps K H N ts vs) (h2 : SqT K H b ws) (r2 : Reps K H N us ws) : ItOk K H B N (zipL ts us) (RZ.ItzT K a b) := by
  intro H' N' k kt hn
  have q : SqT K H' a vs := sqT_keep kt h
  have q2 : SqT K H' b ws := sqT_keep kt h2
  have r' : Reps K H' N' ts vs := r.keep (fun b o e n z => k b o e (fun q => n (hB b q)) z) kt hn
  have r2' : Reps K H' N' us ws := r2.keep (fun b o e n z => k b o e (fun q => n (hB b q)) z) kt hn
  refine ⟨fun i hi => ⟨vs, ws, q, q2, ?_⟩, fun i t e => ?_⟩
  · rw [zipL_len, r.length, r2.length] at hi
    omega
  · obtain ⟨x, y, e1, e2, et⟩ := zipL_at _ _ _ _ e
    subst et
    obtain ⟨v, hv, rv⟩ := r'.get e1
    obtain ⟨w, hw, rw_⟩ := r2'.get e2
    refine ⟨⟨vs, ws, v, w, q, q2, hv, hw⟩, fun x H'' ⟨T, y, z, e1, e2, e3, e4, e5⟩ => ?_⟩
    subst e1 e3
    have t1 := e4 vs q
    have t2 := e5 ws q2
    rw [hv] at t1
    rw [hw] at t2
    cases t1
    cases t2
    exact ⟨Grow.upd e2, .tup (SqT.of upd_same) (.cons (rv.grow (Grow.upd e2)) (.cons (rw_.grow (Grow.upd e2)) .nil))⟩
/-- the kind of an iterable's result -/
def kdI (K : PySem.W.Frag) (TB : List (Addr × Str)) (σ : L2.St) (pk : List Nat) : Kd K σ (List T) It where
  VP := fun Nw W items H' O' ρ' J => ∃ W1, (∀ b, W b → W1 b) ∧ EnvRep K TB H' W1 O' σ ρ' ∧ ItOk K H' (fun b => Ow O' (lend pk ρ') b ∨ W b) (NG W1 O') items J ∧ ∀ b, W1 b → W b ∨ Nw b
  shift := fun {Nw Nw1 W W1} {_ _ _ _} {_} h hw ⟨W2, a, b, c, d⟩ => ⟨fun b => W2 b ∧ (W b ∨ Nw b), fun b q => ⟨a b (hw b q), .inl q⟩, b.drop fun _ q => q.1, fun H' N' k kt hn => c H' N' (fun b o e n z => k b o e (fun q => n (q.imp id (hw b))) z) kt (fun b q => (hn b q).imp (ng_mono (fun _ q => q.1) b) id), fun b q => q.2⟩
def tI (K : PySem.W.Frag) (TB : List (Addr × Str)) (C : CT) (Wx : WX) (pk : List Nat) (r : EI) : TI := fun σ H R => tR TB C Wx (kdI K TB σ pk) r H R
/-! ### loops -/
theorem bind_assoc {γ : Type} (r : R α) (f : α → Env → R β) (k : β → Env → R γ) : (r.bind f).bind k = r.bind fun a ρ => (f a ρ).bind k := by cases r <;> rfl
theorem sem_whl {n : Nat} {rc : Env → R Bool} {rb : ES} {D : Ends} (g : tS K TB C Wx (whlK n rc rb) D σ H) : tWhile (tT K TB C Wx rc) (tS K TB C Wx rb) D σ H := by
  refine ⟨fun m σ H => tS K TB C Wx (whileL rc rb m) D σ H, ⟨n, g⟩, fun m σ H g => ?_⟩
  cases m with
  | zero =>
    obtain ⟨W, O, ρ, en, g⟩ := g
    exact g.elim
  | succ m =>
    obtain ⟨W, O, ρ, en, g⟩ := g
    have g : SGo K TB C Wx no1 H W O ρ σ ((rc ρ).bind fun b ρ => cond b ((rb ρ).bind (thenF (whileL rc rb m))) (.ok .next ρ)) (FG K TB (nw H O ρ) W D) := g
    refine ⟨W, O, ρ, en, SGo.firstE (k := kdP K TB σ Bool) g fun b ρ1 b' H1 O1 e p vp g1 => ?_⟩
    obtain ⟨eb, en1⟩ := vp
    subst eb
    cases b' with
    | false =>
      rw [if_neg (by decide)]
      exact g1 σ H1 O1 (.of p) en1
    | true =>
      rw [if_pos rfl]
      refine ⟨fun σ' H' => tS K TB C Wx (whileL rc rb m) D σ' H', fun σ' H' h => ⟨m, Nat.lt_succ_self _, h⟩, ?_⟩
      have g2 : SGo K TB C Wx no1 H1 W O1 ρ1 σ ((rb ρ1).bind (thenF (whileL rc rb m))) (FG K TB (nw H1 O1 ρ1) W D) := SGo.shift (r := (rb ρ1).bind (thenF (whileL rc rb m))) g1 (.of p) no1_any (fun _ q => q) (FG.mono (fun _ => p.nw) fun _ q => q)
      refine ⟨W, O1, ρ1, en1, SGo.first g2 fun fl ρ2 σ2 H2 O2 e2 p2 en2 g3 => ?_⟩
      cases fl with
      | next => exact tS.later en2 p2 g3
      | ret t k => exact fun v vp => g3 σ2 H2 O2 p2 en2 v vp
theorem sem_for {it : EI} {rt : EA} {rb : ES} {D : Ends} (g : tS K TB C Wx (frK pk rt it rb) D σ H) : tFor (tI K TB C Wx pk it) (tG K TB C Wx rt) (tS K TB C Wx rb) D σ H := by
  obtain ⟨W, O, ρ, en, g⟩ := g
  refine ⟨W, O, ρ, en, SGo.firstE (k := kdI K TB σ pk) g fun items ρ1 J H1 O1 e p vp g1 => ?_⟩
  obtain ⟨W1, hw1, en1, iok, _⟩ := vp
  have g2 : SGo K TB C Wx no1 H1 W1 O1 ρ1 σ ((forL (fun x ρ => (rt ⟨x, .s⟩ ρ).bind fun _ ρ => rb ρ) items (lend pk ρ1)).mapEnv (unlend ρ1 pk)) (FG K TB (nw H1 O1 ρ1) W1 D) :=
    SGo.shift (r := (forL (fun x ρ => (rt ⟨x, .s⟩ ρ).bind fun _ ρ => rb ρ) items (lend pk ρ1)).mapEnv (unlend ρ1 pk)) g1 (.of p) no1_any hw1 (FG.mono (fun _ => p.nw) hw1)
  have g3 := g2.unlend en1
  have enl := en1.lend pk
  clear g1 g2 g
  refine ⟨fun i m σ' H' => ∃ O' ρ', SPost no1 H1 O1 (lend pk ρ1) σ H' O' ρ' σ' ∧ EnvRep K TB H' W1 O' σ' ρ' ∧ i ≤ items.length ∧ m = items.length - i ∧
    SGo K TB C Wx no1 H1 W1 O1 (lend pk ρ1) σ (forL (fun x ρ => (rt ⟨x, .s⟩ ρ).bind fun _ ρ => rb ρ) (items.drop i) ρ') (FG K TB (nw H1 O1 (lend pk ρ1)) W1 D),
    ⟨items.length, O1, lend pk ρ1, .of Post.refl, enl, Nat.zero_le _, rfl, g3⟩, fun i m σ' H' ⟨O', ρ', ps, en', hi, hm, g4⟩ => ?_⟩
  have hN : ∀ b, NG W1 O' b → NG W1 O1 b ∨ nn H1 b := fun b q => by
    rcases q with q | ⟨j, q⟩
    · exact .inl (.inl q)
    · rcases ps.own j b q with ⟨k, z⟩ | z | z
      · exact .inl (.inr ⟨k, z⟩)
      · exact .inr z
      · exact z.elim
  obtain ⟨stp, gos⟩ := iok H' (NG W1 O') (fun b o e n z => ps.keep b o e (fun q => n (.inl q)) z) (ow_mut2 enl ps) hN
  by_cases hlt : i < items.length
  · refine .inr ?_
    obtain ⟨x, hx⟩ : ∃ x, items[i]? = some x := ⟨items[i], List.getElem?_eq_getElem hlt⟩
    obtain ⟨go, yl⟩ := gos i x hx
    refine ⟨go, fun σ2 H2 => ∃ O2 ρ2, SPost no1 H1 O1 (lend pk ρ1) σ H2 O2 ρ2 σ2 ∧ EnvRep K TB H2 W1 O2 σ2 ρ2 ∧ SGo K TB C Wx no1 H1 W1 O1 (lend pk ρ1) σ (forL (fun x ρ => (rt ⟨x, .s⟩ ρ).bind fun _ ρ => rb ρ) (items.drop (i + 1)) ρ2) (FG K TB (nw H1 O1 (lend pk ρ1)) W1 D),
      fun σ2 H2 ⟨O2, ρ2, a, b, c⟩ => ⟨items.length - (i + 1), by omega, O2, ρ2, a, b, hlt, rfl, c⟩, fun v H'' y => ?_⟩
    obtain ⟨gr, rv⟩ := yl v H'' y
    have ps2 : SPost no1 H1 O1 (lend pk ρ1) σ H'' O' ρ' σ' := ps.trans (.of (Post.grow gr)) no1_any
    have en2 := en'.grow gr
    have ed : items.drop i = x :: items.drop (i + 1) := by
      have e0 := List.drop_eq_getElem_cons hlt
      rw [List.getElem?_eq_getElem hlt] at hx
      cases hx
      exact e0
    rw [ed] at g4
    have g5 : SGo K TB C Wx no1 H1 W1 O1 (lend pk ρ1) σ (((rt ⟨x, .s⟩ ρ').bind fun _ ρ => rb ρ).bind (thenF (forL (fun x ρ => (rt ⟨x, .s⟩ ρ).bind fun _ ρ => rb ρ) (items.drop (i + 1))))) (FG K TB (nw H1 O1 (lend pk ρ1)) W1 D) := g4
    rw [bind_assoc] at g5
    refine ⟨no1, W1, O', ρ', ⟨x, .s⟩, ⟨rv, en2⟩, ?_⟩
    refine SGo.shift (G := fun _ σ3 H3 _ _ => tS K TB C Wx rb { D with nx := _, ct := _, bk := D.nx } σ3 H3) ?_ ps2 (fun b q => by cases q.1) (fun _ q => q) fun _ _ _ _ _ q => q
    refine SGo.first g5 fun _ ρ3 σ3 H3 O3 e3 p3 en3 g6 => ?_
    have g7 := SGo.shift (r := (rb ρ3).bind (thenF (forL (fun x ρ => (rt ⟨x, .s⟩ ρ).bind fun _ ρ => rb ρ) (items.drop (i + 1))))) (Hd1 := no1) g6 p3 no1_any (fun _ q => q) (FG.mono (Nw1 := nw H3 O3 ρ3) (fun _ => p3.nw) fun _ q => q)
    refine ⟨W1, O3, ρ3, en3, ?_⟩
    have key : ∀ {r : R PB.Flow} {k : Env → R PB.Flow}, SGo K TB C Wx no1 H1 W1 O1 (lend pk ρ1) σ (r.bind (thenF k)) (FG K TB (nw H1 O1 (lend pk ρ1)) W1 D) → SGo K TB C Wx no1 H3 W1 O3 ρ3 σ3 r (FG K TB (nw H3 O3 ρ3) W1
        { D with nx := fun σ2 H2 => ∃ O2 ρ2, SPost no1 H1 O1 (lend pk ρ1) σ H2 O2 ρ2 σ2 ∧ EnvRep K TB H2 W1 O2 σ2 ρ2 ∧ SGo K TB C Wx no1 H1 W1 O1 (lend pk ρ1) σ (k ρ2) (FG K TB (nw H1 O1 (lend pk ρ1)) W1 D),
                 ct := fun σ2 H2 => ∃ O2 ρ2, SPost no1 H1 O1 (lend pk ρ1) σ H2 O2 ρ2 σ2 ∧ EnvRep K TB H2 W1 O2 σ2 ρ2 ∧ SGo K TB C Wx no1 H1 W1 O1 (lend pk ρ1) σ (k ρ2) (FG K TB (nw H1 O1 (lend pk ρ1)) W1 D), bk := D.nx }) := by
      intro r k g
      cases r with
      | bad => exact g
      | exc c y => exact fun cls d σ' H' xp => g cls d σ' H' (xpost_back p3 (fun _ q => q) xp)
      | ok fl ρ4 =>
        intro σ4 H4 O4 p4 en4
        cases fl with
        | next => exact ⟨O4, ρ4, p3.trans p4 no1_any, en4, g⟩
        | ret t k => exact fun v vp => g σ4 H4 O4 (p3.trans p4 no1_any) en4 v ((kdV K TB σ4).shift (fun _ => p3.nw) (fun _ q => q) vp)
    exact key g6
  · have hi' : i = items.length := by omega
    subst hi'
    rw [List.drop_length] at g4
    exact .inl ⟨stp _ (Nat.le_refl _), g4 σ' H' O' ps en'⟩
end
end PB
end

section
set_option Elab.async false
set_option linter.all false
set_option maxRecDepth 100000
set_option maxHeartbeats 4000000
/-! Sound15: iterables. -/
namespace PB
open PySem PySem.Spec PyProof.Rows L2
theorem _root_.L2.PI.mono {X : Cx} {tg e : Expr} {t t' : TI} (h : PI X tg e t) (m : ∀ σ H R, t' σ H R → t σ H R) : PI X tg e t' := ⟨fun pins s σ H R I q => h.run pins s σ H R I (m σ H R q)⟩
/-- a list or a tuple is walked -/
def iSeq (K : PySem.W.Frag) (tl : TE) : TI := fun σ H R => iList K tl σ H R ∨ iTup K tl σ H R
theorem pi_seq {X : Cx} {tg l : Expr} {tl : TE} (hl : PE X l tl) : PI X tg l (iSeq X.K tl) :=
  ⟨fun pins s σ H R I h => h.elim ((pi_list hl).run pins s σ H R I) ((pi_tup hl).run pins s σ H R I)⟩
section
variable {K : PySem.W.Frag} {TB : List (Addr × Str)} {C : CT} {Wx : WX}
variable {H H' H1 H2 : Hp} {W W' W1 : Addr → Prop} {O O' O1 O2 : OA} {ρ ρ' ρ1 ρ2 : Env} {σ σ' σ1 σ2 : L2.St} {pk : List Nat}
/-- a list that is walked is not changed meanwhile -/
theorem src_out {Nw : Addr → Prop} {x : TK} {v : V} {ts : List T} (vp : VPost K TB Nw H W O σ ρ x v) (hl : lentOk pk x.k = true) (e : val ρ x = .lst ts) : ∃ a vs, v = .ref a ∧ H a = some (.lst vs) ∧ ¬ (Ow O (lend pk ρ) a ∨ W a) ∧ Reps K H (NG (heldW W x v) O) ts vs := by
  have rd := vp.read
  rw [e] at rd
  obtain ⟨t, k⟩ := x
  have nsh : ∀ {N : Addr → Prop} {t' : T} {ts : List T} {v : V}, Rep K H (NG W O) (.lst ts) v → ∃ a vs, v = .ref a ∧ H a = some (.lst vs) ∧ ¬ (Ow O (lend pk ρ) a ∨ W a) ∧ Reps K H (NG W O) ts vs := by
    intro N t' ts v r
    cases r with
    | lst h n r => exact ⟨_, _, rfl, h, fun q => n (q.elim (fun q => ow_ng (ow_lend q)) .inl), r⟩
  cases k with
  | s =>
    have e : t = .lst ts := un_lst e
    subst e
    exact nsh (N := no1) (t' := .non) vp.1
  | f =>
    obtain ⟨a, rfl, _, ng, r, en⟩ := vp
    have e : t = .lst ts := un_lst e
    subst e
    obtain ⟨vs, h, r⟩ := r.lstE
    exact ⟨a, vs, rfl, h, fun q => ng (q.elim (fun q => ow_ng (ow_lend q)) .inl), r⟩
  | p i =>
    obtain ⟨ev, hn, en⟩ := vp
    have e : treeOf (slotAt ρ i) = .lst ts := un_lst e
    have hm : i ∈ pk := memN_mem.mp hl
    have q := en.sl i
    cases es : slotAt ρ i with
    | no => exact absurd es hn
    | sh t =>
      rw [es] at q e
      obtain ⟨_, w, ew, r⟩ := q
      rw [ev] at ew; cases ew
      have e : t = .lst ts := e
      subst e
      exact nsh (N := no1) (t' := .non) r
    | fz t =>
      rw [es] at q e
      obtain ⟨_, w, ew, r⟩ := q
      rw [ev] at ew; cases ew
      have e : t = .lst ts := e
      subst e
      exact nsh (N := no1) (t' := .non) r
    | ow b t =>
      rw [es] at q e
      obtain ⟨a, ea, ew, r⟩ := q
      rw [ev] at ew; cases ew
      have e : t = .lst ts := e
      subst e
      obtain ⟨vs, h, r⟩ := r.lstE
      refine ⟨a, vs, rfl, h, fun zz => zz.elim (fun ⟨j, bb, u, z1, z2⟩ => ?_) (en.out i a ea), r⟩
      have := en.inj j i a z1 ea
      subst this
      rw [lend_at, if_pos hm, es] at z2
      cases z2
    | le t =>
      rw [es] at q e
      obtain ⟨a, ea, ew, r⟩ := q
      rw [ev] at ew; cases ew
      have e : t = .lst ts := e
      subst e
      obtain ⟨vs, h, r⟩ := r.lstE
      refine ⟨a, vs, rfl, h, fun zz => zz.elim (fun ⟨j, bb, u, z1, z2⟩ => ?_) (en.out i a ea), r⟩
      have := en.inj j i a z1 ea
      subst this
      rw [lend_at, if_pos hm, es] at z2
      cases z2
theorem ow_in {b : Addr} {W W1 : Addr → Prop} (hw : ∀ b, W b → W1 b) : (Ow O (lend pk ρ) b ∨ W b) → NG W1 O b := fun q => q.elim (fun q => ow_ng (ow_lend q)) fun q => .inl (hw b q)
theorem held_nw {Nw : Addr → Prop} {x : TK} {v : V} (vp : VPost K TB Nw H1 W O1 σ ρ1 x v) : ∀ b, heldW W x v b → W b ∨ Nw b := fun b q => by
  obtain ⟨t, k⟩ := x
  cases k with
  | s => exact .inl q
  | p i => exact .inl q
  | f =>
    obtain ⟨a, rfl, n, _⟩ := vp
    rcases q with q | q
    · exact .inl q
    · subst q; exact .inr n
theorem sem_itl {ra : EV} {R : It → Hp → Prop} (g : tI K TB C Wx pk (itlK pk ra) σ H R) : iSeq K (tE K TB C Wx ra) σ H R := by
  obtain ⟨W, O, ρ, en, g⟩ := g
  have g0 : Go TB C Wx (kdI K TB σ pk) H W O ρ ((ra ρ).bind fun x ρ => cond (lentOk pk x.k) (ofOpt (val ρ x).items ρ) .bad) R := g
  cases er : ra ρ with
  | bad => rw [er] at g0; exact g0.elim
  | exc c x => rw [er] at g0; exact .inl ⟨W, O, ρ, en, by rw [er]; exact g0⟩
  | ok x ρ1 =>
    rw [er] at g0
    have g1 : Go TB C Wx (kdI K TB σ pk) H W O ρ (cond (lentOk pk x.k) (ofOpt (val ρ1 x).items ρ1) .bad) R := g0
    cases el : lentOk pk x.k with
    | false => rw [el] at g1; exact g1.elim
    | true =>
      rw [el] at g1
      have g1 : Go TB C Wx (kdI K TB σ pk) H W O ρ (ofOpt (val ρ1 x).items ρ1) R := g1
      cases ev : val ρ1 x with
      | lst ts =>
        rw [ev] at g1
        refine .inl ⟨W, O, ρ, en, ?_⟩
        rw [er]
        intro v H1 O1 p vp
        have vp : VPost K TB (nw H O ρ) H1 W O1 σ ρ1 x v := vp
        obtain ⟨a, vs, rfl, h, na, r⟩ := src_out vp el ev
        exact ⟨a, rfl, ⟨vs, SqL.of h⟩, g1 _ H1 O1 p ⟨heldW W x (.ref a), heldW_le, vp.envH, .list (fun b q => ow_in heldW_le q) h na r, held_nw vp⟩⟩
      | tup ts =>
        rw [ev] at g1
        refine .inr ⟨W, O, ρ, en, ?_⟩
        rw [er]
        intro v H1 O1 p vp
        have vp : VPost K TB (nw H O ρ) H1 W O1 σ ρ1 x v := vp
        have rd := vp.read
        rw [ev] at rd
        obtain ⟨a, vs, rfl, h, r⟩ := rd.tup
        exact ⟨a, rfl, ⟨vs, h⟩, g1 _ H1 O1 p ⟨heldW W x (.ref a), heldW_le, vp.envH, .tup (fun b q => ow_in heldW_le q) h r, held_nw vp⟩⟩
      | _ => rw [ev] at g1; exact g1.elim
theorem sem_enm {ra : EV} {R : It → Hp → Prop} (g : tI K TB C Wx pk (enmK pk ra) σ H R) : iEnum K (tCons (tE K TB C Wx ra) tNil) σ H R := by
  obtain ⟨W, O, ρ, en, g⟩ := g
  refine ⟨W, O, ρ, en, Go.first (k := kdV K TB σ) g fun x ρ1 v H1 O1 e p vp g1 => ?_⟩
  have vp : VPost K TB (nw H O ρ) H1 W O1 σ ρ1 x v := vp
  have g1 : Go TB C Wx (kdI K TB σ pk) H W O ρ ((ra ρ).bind fun x ρ => cond (lentOk pk x.k) (ofOpt (optBind (lstT (val ρ x)) fun l => some (enumL 0 l)) ρ) .bad) R := g
  rw [e] at g1
  have g1 : Go TB C Wx (kdI K TB σ pk) H W O ρ (cond (lentOk pk x.k) (ofOpt (optBind (lstT (val ρ1 x)) fun l => some (enumL 0 l)) ρ1) .bad) R := g1
  cases el : lentOk pk x.k with
  | false => rw [el] at g1; exact g1.elim
  | true =>
    rw [el] at g1
    have g1 : Go TB C Wx (kdI K TB σ pk) H W O ρ (ofOpt (optBind (lstT (val ρ1 x)) fun l => some (enumL 0 l)) ρ1) R := g1
    cases ev : val ρ1 x with
    | lst ts =>
      rw [ev] at g1
      obtain ⟨a, vs, rfl, h, na, r⟩ := src_out vp el ev
      exact ⟨a, vs, rfl, SqL.of h, g1 _ H1 O1 p ⟨heldW W x (.ref a), heldW_le, vp.envH, .enum (fun b q => ow_in heldW_le q) h na r, held_nw vp⟩⟩
    | _ => rw [ev] at g1; exact g1.elim
theorem small_of {i : Int} (h : small i = true) : -1000000000 < i ∧ i < 1000000000 := by
  obtain ⟨a, b⟩ := and_t h
  exact ⟨lt_of a, lt_of b⟩
theorem sem_rng1 {ra : EV} {R : It → Hp → Prop} (g : tI K TB C Wx pk (rng1K ra) σ H R) : iRng1 (tCons (tE K TB C Wx ra) tNil) σ H R := by
  refine one g fun W O ρ x v H1 en rx g1 => ?_
  have g1 : Go TB C Wx (kdI K TB σ pk) H1 W O ρ (ofOpt (rng1T (val ρ x)) ρ) R := g1
  cases ev : val ρ x with
  | int i =>
    rw [ev] at g1 rx
    have g1 : Go TB C Wx (kdI K TB σ pk) H1 W O ρ (ofOpt (cond (small i) (some (rangeL 0 i.toNat)) none) ρ) R := g1
    cases es : small i with
    | false => rw [es] at g1; exact g1.elim
    | true =>
      rw [es] at g1
      obtain ⟨h1, h2⟩ := small_of es
      refine ⟨i, by rw [rx.int], by omega, by omega, g1 _ H1 O Post.refl ⟨W, fun _ q => q, en, .range, fun _ q => .inl q⟩⟩
  | _ => rw [ev] at g1; exact g1.elim
theorem sem_rng2 {ra rb : EV} {R : It → Hp → Prop} (g : tI K TB C Wx pk (rng2K ra rb) σ H R) : iRng2 (tCons (tE K TB C Wx ra) (tCons (tE K TB C Wx rb) tNil)) σ H R := by
  refine two g fun W O ρ x y v u H1 en rx ry g1 => ?_
  have g1 : Go TB C Wx (kdI K TB σ pk) H1 W O ρ (ofOpt (rng2T (val ρ x) (val ρ y)) ρ) R := g1
  cases ev : val ρ x with
  | int i =>
    cases eu : val ρ y with
    | int j =>
      rw [ev] at g1 rx
      rw [eu] at g1 ry
      have g1 : Go TB C Wx (kdI K TB σ pk) H1 W O ρ (ofOpt (cond (small i && small j) (some (rangeL i (j - i).toNat)) none) ρ) R := g1
      cases es : small i && small j with
      | false => rw [es] at g1; exact g1.elim
      | true =>
        rw [es] at g1
        obtain ⟨s1, s2⟩ := and_t es
        obtain ⟨h1, h2⟩ := small_of s1
        obtain ⟨h3, h4⟩ := small_of s2
        refine ⟨i, j, by rw [rx.int, ry.int], ⟨by omega, by omega, by omega, by omega⟩, g1 _ H1 O Post.refl ⟨W, fun _ q => q, en, .range, fun _ q => .inl q⟩⟩
    | _ => rw [ev, eu] at g1; exact g1.elim
  | _ => rw [ev] at g1; exact g1.elim
theorem src_held {W0 : Addr → Prop} {x : TK} {v : V} {fr : List Addr} {ts : List T} (hw0 : ∀ b, W0 b → W b) (hfw : ∀ a ∈ fr, ¬ W0 a) (en : EnvRep K TB H W O σ ρ) (h : VL K H (NG W O) σ ρ [x] [v] fr) (hf : ∀ a ∈ fr, ∀ i, O i ≠ some a) (hl : lentOk pk x.k = true) (e : val ρ x = .lst ts) :
    ∃ a vs, v = .ref a ∧ H a = some (.lst vs) ∧ ¬ (Ow O (lend pk ρ) a ∨ W0 a) ∧ Reps K H (NG W O) ts vs := by
  have out : ∀ {a : Addr}, ¬ (Ow O (lend pk ρ) a ∨ W a) → ¬ (Ow O (lend pk ρ) a ∨ W0 a) := fun n q => n (q.imp id (hw0 _))
  cases h with
  | sh r q =>
    obtain ⟨a, vs, e1, e2, e3, e4⟩ := src_out (pk := pk) (Nw := no1) (W := W) (x := ⟨_, .s⟩) ⟨r, en⟩ hl e
    exact ⟨a, vs, e1, e2, out e3, e4⟩
  | fr r q =>
    rename_i t a fr
    have e : t = .lst ts := un_lst e
    subst e
    obtain ⟨vs, h, r⟩ := r.lstE
    refine ⟨a, vs, rfl, h, fun q => ?_, r⟩
    rcases q with q | q
    · obtain ⟨i, _, _, z, _⟩ := ow_lend q
      exact hf a List.mem_cons_self i z
    · exact hfw a List.mem_cons_self q
  | pk a b q =>
    obtain ⟨a, vs, e1, e2, e3, e4⟩ := src_out (pk := pk) (Nw := no1) (W := W) (x := ⟨_, .p _⟩) ⟨a, b, en⟩ hl e
    exact ⟨a, vs, e1, e2, out e3, e4⟩
theorem VL.two {N : Addr → Prop} {x y : TK} {vs : List V} {fr : List Addr} (h : VL K H N σ ρ [x, y] vs fr) : ∃ v u f1 f2, vs = [v, u] ∧ VL K H N σ ρ [x] [v] f1 ∧ VL K H N σ ρ [y] [u] f2 ∧ (∀ a ∈ f1, a ∈ fr) ∧ ∀ a ∈ f2, a ∈ fr := by
  have tl : ∀ {l : List TK} {vs : List V} {f : List Addr}, VL K H N σ ρ [y] vs f → ∃ u, vs = [u] := fun h => by
    cases h with
    | sh _ q => cases q; exact ⟨_, rfl⟩
    | fr _ q => cases q; exact ⟨_, rfl⟩
    | pk _ _ q => cases q; exact ⟨_, rfl⟩
  cases h with
  | sh r q =>
    obtain ⟨u, rfl⟩ := tl (l := []) q
    exact ⟨_, u, [], fr, rfl, .sh r .nil, q, fun _ m => (by cases m), fun _ m => m⟩
  | fr r q =>
    obtain ⟨u, rfl⟩ := tl (l := []) q
    exact ⟨_, u, [_], _, rfl, .fr r .nil, q, fun b m => by
      rw [List.mem_singleton] at m
      rw [m]; exact List.mem_cons_self, fun _ m => List.mem_cons_of_mem _ m⟩
  | pk a b q =>
    obtain ⟨u, rfl⟩ := tl (l := []) q
    exact ⟨_, u, [], fr, rfl, .pk a b .nil, q, fun _ m => (by cases m), fun _ m => m⟩
theorem VL.read1 {N : Addr → Prop} {x : TK} {v : V} {fr : List Addr} (en : EnvRep K TB H W O σ ρ) (h : VL K H (NG W O) σ ρ [x] [v] fr) : RRep K H (NG W O) (val ρ x) v := by
  have := h.reads en fun _ q => q
  cases this with
  | cons a b => exact a
theorem sem_zp {rl : EVs} {R : It → Hp → Prop} (g : tI K TB C Wx pk (zpK pk rl) σ H R) : RZ.iZipA K (tA K TB C Wx rl) σ H R := by
  obtain ⟨W, O, ρ, en, g⟩ := g
  refine ⟨W, O, ρ, en, Go.first (k := kdL K TB σ) g fun l ρ1 vs H1 O1 e p vp g1 => ?_⟩
  obtain ⟨fr, vp⟩ := vp
  have g1 : Go TB C Wx (kdI K TB σ pk) H W O ρ ((rl ρ).bind fun l ρ => ofOpt (zp2 pk ρ l) ρ) R := g
  rw [e] at g1
  have g1 : Go TB C Wx (kdI K TB σ pk) H W O ρ (ofOpt (zp2 pk ρ1 l) ρ1) R := g1
  have NWFR : ∀ b, uni W fr b → W b ∨ nw H O ρ b := fun b q => q.imp id (vp.new b)
  have hf : ∀ a ∈ fr, ∀ i, O1 i ≠ some a := fun a m i z => vp.ng a m (.inr ⟨i, z⟩)
  match l, g1, vp with
  | [x, y], g1, vp =>
    have g1 : Go TB C Wx (kdI K TB σ pk) H W O ρ (ofOpt (cond (lentOk pk x.k && lentOk pk y.k) (zipT (val ρ1 x) (val ρ1 y)) none) ρ1) R := g1
    cases el : (lentOk pk x.k && lentOk pk y.k) with
    | false => rw [el] at g1; exact g1.elim
    | true =>
      rw [el] at g1
      obtain ⟨l1, l2⟩ := and_t el
      have g1 : Go TB C Wx (kdI K TB σ pk) H W O ρ (ofOpt (zipT (val ρ1 x) (val ρ1 y)) ρ1) R := g1
      obtain ⟨v, u, f1, f2, rfl, v1, v2, m1, m2⟩ := vp.vl.two
      have hw : ∀ b, W b → uni W fr b := fun _ q => .inl q
      cases ev : val ρ1 x with
      | lst ts =>
        cases eu : val ρ1 y with
        | lst us =>
          rw [ev, eu] at g1
          obtain ⟨a, vs, rfl, ha, na, ra⟩ := src_held (W0 := W) hw (fun a m q => vp.ng a (m1 a m) (.inl q)) vp.env v1 (fun a m => hf a (m1 a m)) l1 ev
          obtain ⟨b, ws, rfl, hb, nb, rb⟩ := src_held (W0 := W) hw (fun a m q => vp.ng a (m2 a m) (.inl q)) vp.env v2 (fun a m => hf a (m2 a m)) l2 eu
          exact ⟨a, b, vs, ws, rfl, .inl ⟨SqL.of ha, SqL.of hb, g1 _ H1 O1 p ⟨uni W fr, hw, vp.env, .zipl (fun b q => ow_in hw q) ha na ra hb nb rb, NWFR⟩⟩⟩
        | _ => rw [ev, eu] at g1; exact g1.elim
      | tup ts =>
        cases eu : val ρ1 y with
        | tup us =>
          rw [ev, eu] at g1
          have r1 := VL.read1 (N := no1) vp.env v1
          have r2 := VL.read1 (N := no1) vp.env v2
          rw [ev] at r1
          rw [eu] at r2
          obtain ⟨a, vs, rfl, ha, ra⟩ := r1.tup
          obtain ⟨b, ws, rfl, hb, rb⟩ := r2.tup
          exact ⟨a, b, vs, ws, rfl, .inr ⟨ha, hb, g1 _ H1 O1 p ⟨uni W fr, hw, vp.env, .zipt (fun b q => ow_in hw q) ha ra hb rb, NWFR⟩⟩⟩
        | _ => rw [ev, eu] at g1; exact g1.elim
      | _ => rw [ev] at g1; exact g1.elim
  | [], g1, _ => exact g1.elim
  | [_], g1, _ => exact g1.elim
  | _ :: _ :: _ :: _, g1, _ => exact g1.elim
/-! ### the rules -/
variable {X : Cx} {tg e e2 : Expr} {ra rb : EV} {p pos tpos : Pos} {elts : List Expr} {kk : Nat}
theorem r_itl (he : PE X e (tE X.K TB C Wx ra)) : PI X tg e (tI X.K TB C Wx pk (itlK pk ra)) := (pi_seq he).mono fun σ H R g => sem_itl g
theorem r_rng1 (hg : Gl X "range") (hm : X.mg "range" = none) (he : PE X e (tE X.K TB C Wx ra)) (hs : ∀ es, starEach (e :: es) X.env = (false, eval e X.env) :: starEach es X.env) : PI X tg (.Call (.Name "range" p) [e] [] pos) (tI X.K TB C Wx pk (rng1K ra)) :=
  (pi_range1 hg hm (pa_cons he pa_nil (hs _)) (hs [])).mono fun σ H R g => sem_rng1 g
theorem r_rng2 (hg : Gl X "range") (hm : X.mg "range" = none) (he : PE X e (tE X.K TB C Wx ra)) (he2 : PE X e2 (tE X.K TB C Wx rb)) (hs : ∀ es, starEach (e :: es) X.env = (false, eval e X.env) :: starEach es X.env) (hs2 : ∀ es, starEach (e2 :: es) X.env = (false, eval e2 X.env) :: starEach es X.env) :
    PI X tg (.Call (.Name "range" p) [e, e2] [] pos) (tI X.K TB C Wx pk (rng2K ra rb)) :=
  (pi_range2 hg hm (pa_cons he (pa_cons he2 pa_nil (hs2 _)) (hs _)) (by rw [hs, hs2]; rfl) (hs2 [])).mono fun σ H R g => sem_rng2 g
theorem r_enm (hg : Gl X "enumerate") (hm : X.mg "enumerate" = none) (he : PE X e (tE X.K TB C Wx ra)) (hs : ∀ es, starEach (e :: es) X.env = (false, eval e X.env) :: starEach es X.env) : PI X (.Tuple elts kk tpos) (.Call (.Name "enumerate" p) [e] [] pos) (tI X.K TB C Wx pk (enmK pk ra)) :=
  (pi_enum hg hm (pa_cons he pa_nil (hs _)) (hs [])).mono fun σ H R g => sem_enm g
theorem r_zp {rl : EVs} (hg : Gl X "zip") (hm : X.mg "zip" = none) (ha : PA X [e, e2] (tA X.K TB C Wx rl)) (hs : ∀ es, starEach (e :: es) X.env = (false, eval e X.env) :: starEach es X.env) (hs2 : ∀ es, starEach (e2 :: es) X.env = (false, eval e2 X.env) :: starEach es X.env) :
    PI X (.Tuple elts kk tpos) (.Call (.Name "zip" p) [e, e2] [] pos) (tI X.K TB C Wx pk (zpK pk rl)) :=
  (RZ.pi_zipA hg hm ha (by rw [hs]) (by rw [hs2]; rfl)).mono fun σ H R g => sem_zp g
end
end PB
end

section
set_option Elab.async false
set_option linter.all false
set_option maxRecDepth 100000
set_option maxHeartbeats 4000000
/-! Sound16: list comprehensions. -/
namespace PB
open PySem PySem.Spec PyProof.Rows L2
theorem wipe_len : ∀ (own : List Nat) (ρ : Env), (PB.wipe own ρ).length = ρ.length
  | [], _ => rfl
  | i :: r, ρ => by
    show (PB.wipe r (put ρ i .no)).length = _
    rw [wipe_len r, put_length]
theorem put_no (ρ : Env) (i j : Nat) : slotAt (put ρ i .no) j = if i = j then .no else slotAt ρ j := by
  by_cases c : i = j
  · subst c
    rw [if_pos rfl]
    rcases slot_put_any ρ (i := i) .no with h | ⟨h, _⟩ <;> exact h
  · rw [if_neg c, slot_put_ne ρ _ c]
theorem wipe_at : ∀ (own : List Nat) (ρ : Env) (j : Nat), slotAt (PB.wipe own ρ) j = if j ∈ own then .no else slotAt ρ j
  | [], ρ, j => by simp [PB.wipe]
  | i :: r, ρ, j => by
    show slotAt (PB.wipe r (put ρ i .no)) j = _
    rw [wipe_at r, put_no]
    by_cases c : i = j
    · subst c; simp
    · have : (j ∈ i :: r) ↔ j ∈ r := by simp [Ne.symm c]
      rw [if_neg c]
      simp only [this]
theorem unwipe_len : ∀ (ρ₀ : Env) (own : List Nat) (ρ : Env), (unwipe ρ₀ own ρ).length = ρ.length
  | _, [], _ => rfl
  | ρ₀, i :: r, ρ => by
    show (unwipe ρ₀ r (put ρ i (slotAt ρ₀ i))).length = _
    rw [unwipe_len ρ₀ r, put_length]
theorem unwipe_at : ∀ (ρ₀ : Env) (own : List Nat) (ρ : Env), ρ₀.length = ρ.length → ∀ j, slotAt (unwipe ρ₀ own ρ) j = if j ∈ own then slotAt ρ₀ j else slotAt ρ j
  | _, [], ρ, _, j => by simp [unwipe]
  | ρ₀, i :: r, ρ, hl, j => by
    show slotAt (unwipe ρ₀ r (put ρ i (slotAt ρ₀ i))) j = _
    rw [unwipe_at ρ₀ r _ (by rw [put_length]; exact hl)]
    by_cases c : i = j
    · subst c
      have : slotAt (put ρ i (slotAt ρ₀ i)) i = slotAt ρ₀ i := by
        rcases slot_put_any ρ (i := i) (slotAt ρ₀ i) with h | ⟨h, h2⟩
        · exact h
        · rw [h]
          cases e : slotAt ρ₀ i with
          | no => rfl
          | _ => exact absurd (slot_lt (ρ := ρ₀) (i := i) (by rw [e]; nofun)) (by rw [hl]; exact Nat.not_lt.mpr h2)
      simp [this]
    · have : (j ∈ i :: r) ↔ j ∈ r := by simp [Ne.symm c]
      rw [slot_put_ne ρ _ c]
      simp only [this]
def wipeO (own : List Nat) (O : OA) : OA := fun i => if i ∈ own then none else O i
theorem wipeO_in {own : List Nat} {O : OA} {i : Nat} (h : i ∈ own) : wipeO own O i = none := if_pos h
theorem wipeO_out {own : List Nat} {O : OA} {i : Nat} (h : i ∉ own) : wipeO own O i = O i := if_neg h
theorem wipeO_some {own : List Nat} {O : OA} {i : Nat} {a : Addr} (h : wipeO own O i = some a) : i ∉ own ∧ O i = some a := by
  by_cases c : i ∈ own
  · rw [wipeO_in c] at h; cases h
  · rw [wipeO_out c] at h; exact ⟨c, h⟩
theorem lwipe_at {σ : L2.St} {i : Nat} : ∀ {vs : List Nat}, i ∈ vs → (L2.wipe σ vs)[i]? = if i < σ.length then some none else none
  | v :: vs, h => by
    unfold L2.wipe
    by_cases c : v = i
    · subst c
      by_cases hl : v < σ.length
      · rw [List.getElem?_set_self (by rw [L2.wipe_length]; exact hl), if_pos hl]
      · rw [if_neg hl, List.getElem?_eq_none (by rw [List.length_set, L2.wipe_length]; omega)]
    · rw [List.getElem?_set_ne c]
      rcases List.mem_cons.mp h with e | h
      · exact absurd e.symm c
      · exact lwipe_at h
theorem lwipe_eq {σ σ' : L2.St} {vs : List Nat} (hl : σ'.length = σ.length) (h : ∀ i, i ∉ vs → σ'[i]? = σ[i]?) : L2.wipe σ' vs = L2.wipe σ vs := by
  refine List.ext_getElem? fun i => ?_
  by_cases c : i ∈ vs
  · rw [lwipe_at c, lwipe_at c, hl]
  · rw [L2.wipe_out c, L2.wipe_out c, h i c]
section
variable {K : PySem.W.Frag} {TB : List (Addr × Str)} {C : CT} {Wx : WX}
variable {H H' H1 H2 : Hp} {W W' W1 : Addr → Prop} {O O' O1 O2 : OA} {ρ ρ' ρ1 ρ2 : Env} {σ σ' σ1 σ2 : L2.St} {pk own : List Nat} {D : Addr}
theorem ng_wipeO : ∀ b, NG W (wipeO own O) b → NG W O b := fun b q => by
  rcases q with q | ⟨i, q⟩
  · exact .inl q
  · exact .inr ⟨i, (wipeO_some q).2⟩
theorem EnvRep.wipe (h : EnvRep K TB H W O σ ρ) (hl : σ'.length = σ.length) (hs : ∀ i, i ∉ own → σ'[i]? = σ[i]?) : EnvRep K TB H W (wipeO own O) σ' (PB.wipe own ρ) where
  len := by rw [wipe_len, h.len, hl]
  sl := fun i => by
    rw [wipe_at]
    by_cases c : i ∈ own
    · rw [if_pos c]; exact wipeO_in c
    · rw [if_neg c, wipeO_out c, hs i c]
      exact (h.sl i).weak ng_wipeO
  inj := fun i j a e1 e2 => h.inj i j a (wipeO_some e1).2 (wipeO_some e2).2
  out := fun i a e => h.out i a (wipeO_some e).2
  wt := h.wt
  tab := h.tab
/-- what the emptied slots owned stays barred -/
def wipeW (own : List Nat) (O : OA) (W : Addr → Prop) : Addr → Prop := fun a => W a ∨ ∃ i, i ∈ own ∧ O i = some a
theorem ng_wipeW : ∀ b, NG (wipeW own O W) (wipeO own O) b → NG W O b := fun b q => by
  rcases q with (q | ⟨i, _, q⟩) | ⟨i, q⟩
  · exact .inl q
  · exact .inr ⟨i, q⟩
  · exact .inr ⟨i, (wipeO_some q).2⟩
theorem EnvRep.wipeW (h : EnvRep K TB H W O σ ρ) : EnvRep K TB H (PB.wipeW own O W) (wipeO own O) σ (PB.wipe own ρ) where
  len := by rw [wipe_len, h.len]
  sl := fun i => by
    rw [wipe_at]
    by_cases c : i ∈ own
    · rw [if_pos c]; exact wipeO_in c
    · rw [if_neg c, wipeO_out c]
      exact (h.sl i).weak ng_wipeW
  inj := fun i j a e1 e2 => h.inj i j a (wipeO_some e1).2 (wipeO_some e2).2
  out := fun i a e w => by
    obtain ⟨c, e⟩ := wipeO_some e
    rcases w with w | ⟨j, hj, w⟩
    · exact h.out i a e w
    · have := h.inj i j a e w
      subst this
      exact c hj
  wt := fun a w => by
    rcases w with w | ⟨j, _, w⟩
    · exact h.wt a w
    · exact h.othN w
  tab := h.tab
theorem ow_wipe {b : Addr} (h : Ow (wipeO own O) (PB.wipe own ρ) b) : Ow O ρ b := by
  obtain ⟨i, bb, t, e1, e2⟩ := h
  obtain ⟨c, e1⟩ := wipeO_some e1
  rw [wipe_at, if_neg c] at e2
  exact ⟨i, bb, t, e1, e2⟩
theorem tabs_upd {o : HO} {o' : HO} (h : H D = some o) (hn : nt o) (hc : ∀ q, o ≠ LamX.CodeO D q) : ∀ P q, LamX.TabS H P q → LamX.TabS (upd H D o') P q := fun P q ⟨ps, h1, h2, h3⟩ => by
  have nP : P ≠ D := fun c => by subst c; rw [h] at h1; cases h1; exact hn ps rfl
  refine ⟨ps, by rw [upd_ne nP]; exact h1, h2, fun pos cv hc' => ?_⟩
  obtain ⟨c, z1, z2⟩ := h3 pos cv hc'
  refine ⟨c, z1, ?_⟩
  rw [upd_ne fun z => by subst z; rw [h] at z2; cases z2; exact hc q rfl]
  exact z2
/-- a list that is nobody's slot's is written -/
theorem EnvRep.updW {vs ws : List V} (h : EnvRep K TB H W O σ ρ) (w : W D) (hd : H D = some (.lst vs)) : EnvRep K TB (upd H D (.lst ws)) W O σ ρ where
  len := h.len
  sl := fun i => by
    have na : NG W O D := .inl w
    have q := h.sl i
    revert q
    cases es : slotAt ρ i with
    | no => exact id
    | sh t1 => rintro ⟨q0, v, ev, r1⟩; exact ⟨q0, v, ev, r1.upd na .upd hd (.inl ⟨_, rfl⟩)⟩
    | fz t1 => rintro ⟨q0, v, ev, r1⟩; exact ⟨q0, v, ev, r1.upd na .upd hd (.inl ⟨_, rfl⟩)⟩
    | ow b1 t1 =>
      rintro ⟨a1, q0, ev, r1⟩
      have nb : a1 ≠ D := fun z => h.out i a1 q0 (by rw [z]; exact w)
      refine ⟨a1, q0, ev, ?_⟩
      rcases r1 with ⟨ts, vs, e, hh, rr⟩ | ⟨ts, vs, e, hh, rr⟩ | ⟨ts, vs, e, hh, rr⟩
      · exact .inl ⟨ts, vs, e, by rw [upd_ne nb]; exact hh, rr.upd na .upd hd (.inl ⟨_, rfl⟩)⟩
      · exact .inr (.inl ⟨ts, vs, e, by rw [upd_ne nb]; exact hh, rr.upd na .upd hd (.inl ⟨_, rfl⟩)⟩)
      · exact .inr (.inr ⟨ts, vs, e, by rw [upd_ne nb]; exact hh, rr⟩)
    | le t1 =>
      rintro ⟨a1, q0, ev, r1⟩
      have nb : a1 ≠ D := fun z => h.out i a1 q0 (by rw [z]; exact w)
      refine ⟨a1, q0, ev, ?_⟩
      rcases r1 with ⟨ts, vs, e, hh, rr⟩ | ⟨ts, vs, e, hh, rr⟩ | ⟨ts, vs, e, hh, rr⟩
      · exact .inl ⟨ts, vs, e, by rw [upd_ne nb]; exact hh, rr.upd na .upd hd (.inl ⟨_, rfl⟩)⟩
      · exact .inr (.inl ⟨ts, vs, e, by rw [upd_ne nb]; exact hh, rr.upd na .upd hd (.inl ⟨_, rfl⟩)⟩)
      · exact .inr (.inr ⟨ts, vs, e, by rw [upd_ne nb]; exact hh, rr⟩)
  inj := h.inj
  out := h.out
  wt := fun b q => by
    by_cases c : b = D
    · subst c; exact ⟨_, upd_same, fun _ z => by cases z⟩
    · rw [upd_ne c]; exact h.wt b q
  tab := fun p hp => tabs_upd hd (fun _ z => by cases z) (fun _ z => by unfold LamX.CodeO at z; cases z) _ _ (h.tab p hp)
/-! ### targets of clauses -/
def tC (K : PySem.W.Frag) (TB : List (Addr × Str)) (own : List Nat) (r : TK → Env → R Unit) : TG := fun v σ H Q => ∃ W O ρ t, EnvRep K TB H W O σ ρ ∧ Rep K H (NG W O) t v ∧ ∃ ρ', r ⟨t, .s⟩ ρ = .ok () ρ' ∧
  ∀ σ' O', Post H O ρ H O' ρ' → σ'.length = σ.length → (∀ i, i ∉ own → σ'[i]? = σ[i]?) → EnvRep K TB H W O' σ' ρ' → Q σ' H
def tCs (K : PySem.W.Frag) (TB : List (Addr × Str)) (own : List Nat) (r : List TK → Env → R Unit) : TGs := fun vs σ H Q => ∃ W O ρ ts, EnvRep K TB H W O σ ρ ∧ Reps K H (NG W O) ts vs ∧ ∃ ρ', r (shared ts) ρ = .ok () ρ' ∧
  ∀ σ' O', Post H O ρ H O' ρ' → σ'.length = σ.length → (∀ i, i ∉ own → σ'[i]? = σ[i]?) → EnvRep K TB H W O' σ' ρ' → Q σ' H
theorem bind_ok {α β : Type} {r : R α} {f : α → Env → R β} {b : β} (h : r.bind f = .ok b ρ2) : ∃ a ρ1, r = .ok a ρ1 ∧ f a ρ1 = .ok b ρ2 := by
  cases r with
  | ok a ρ1 => exact ⟨a, ρ1, rfl, h⟩
  | exc c x => cases h
  | bad => cases h
theorem mapEnv_ok {α : Type} {r : R α} {f : Env → Env} {b : α} (h : r.mapEnv f = .ok b ρ2) : ∃ ρ1, r = .ok b ρ1 ∧ f ρ1 = ρ2 := by
  cases r with
  | ok a ρ1 => cases h; exact ⟨ρ1, rfl, rfl⟩
  | exc c x => cases h
  | bad => cases h
theorem post_set {i : Nat} {t : T} (hm : mayStore (slotAt ρ i) = true) : Post H O ρ H (setO O i none) (put ρ i (.sh t)) where
  own := fun j a e => by
    by_cases c : j = i
    · subst c; rw [setO_same] at e; cases e
    · rw [setO_ne c] at e; exact e
  keep := fun _ _ e _ _ => e
  per := fun _ o e z => ⟨o, e, z⟩
  ne := fun j e => by
    by_cases c : j = i
    · subst c; rw [slot_put ρ _ (slot_lt e)]; nofun
    · rw [slot_put_ne ρ _ (Ne.symm c)]; exact e
  ows := fun j bb u e => by
    by_cases c : j = i
    · subst c
      rcases slot_put_any ρ (i := j) (.sh t) with h | ⟨h, _⟩ <;> rw [h] at e <;> cases e
    · rw [slot_put_ne ρ _ (Ne.symm c)] at e; exact ⟨u, e⟩
  ms := fun j e => by
    have c : j ≠ i := fun c => by subst c; rw [hm] at e; cases e
    rw [slot_put_ne ρ _ (Ne.symm c)]; exact e
  le := fun j u e => by
    have c : j ≠ i := fun c => by subst c; rw [e] at hm; cases hm
    rw [slot_put_ne ρ _ (Ne.symm c), setO_ne c]; exact ⟨e, rfl⟩
theorem sem_ctn {i : Nat} {v : V} {Q : L2.St → Hp → Prop} (hi : i ∈ own) (g : tC K TB own (setSlot i) v σ H Q) : Q (σ.set i (some v)) H := by
  obtain ⟨W, O, ρ, t, en, r, ρ', e, g⟩ := g
  have e : cond (mayStore (slotAt ρ i)) (R.ok () (put ρ i (.sh t))) .bad = .ok () ρ' := e
  cases em : mayStore (slotAt ρ i) with
  | false => rw [em] at e; cases e
  | true =>
    rw [em] at e
    have e : R.ok () (put ρ i (.sh t)) = .ok () ρ' := e
    cases e
    rcases Nat.lt_or_ge i ρ.length with hl | hl
    · refine g _ _ (post_set em) (by simp) (fun j c => ?_) (en.setSh r hl)
      exact set_get_ne fun z => by subst z; exact c hi
    · rw [set_out (by rw [← en.len]; exact hl)]
      refine g σ O ?_ rfl (fun _ _ => rfl) (by rw [put_out ρ i _ hl]; exact en)
      rw [put_out ρ i _ hl]
      exact Post.refl
theorem sem_ctnil {vs : List V} {Q : L2.St → Hp → Prop} (g : tCs K TB own tnilK vs σ H Q) : gNil vs σ H Q := by
  obtain ⟨W, O, ρ, ts, en, r, ρ', e, g⟩ := g
  cases ts with
  | nil =>
    cases r
    cases e
    exact ⟨rfl, g σ O Post.refl rfl (fun _ _ => rfl) en⟩
  | cons t ts => cases e
theorem sem_ctcons {ra : EA} {rl : List TK → Env → R Unit} {vs : List V} {Q : L2.St → Hp → Prop} (g : tCs K TB own (tconsK ra rl) vs σ H Q) : gCons (tC K TB own ra) (tCs K TB own rl) vs σ H Q := by
  obtain ⟨W, O, ρ, ts, en, r, ρ', e, g⟩ := g
  cases ts with
  | nil => cases e
  | cons t ts =>
    have e : ((ra ⟨t, .s⟩ ρ).bind fun _ ρ => rl (shared ts) ρ) = .ok () ρ' := e
    obtain ⟨u, ρ1, e1, e2⟩ := bind_ok e
    obtain ⟨v, vr, rfl, rv, rr⟩ := r.inv
    refine ⟨v, vr, rfl, W, O, ρ, t, en, rv, ρ1, e1, fun σ1 O1 p1 hl1 hs1 en1 => ?_⟩
    refine ⟨W, O1, ρ1, ts, en1, rr.post p1 en, ρ', e2, fun σ2 O2 p2 hl2 hs2 en2 => ?_⟩
    exact g σ2 O2 (p1.trans p2) (hl2.trans hl1) (fun i c => (hs2 i c).trans (hs1 i c)) en2
theorem sem_ctt {n : Nat} {rl : List TK → Env → R Unit} {v : V} {Q : L2.St → Hp → Prop} (g : tC K TB own (ttK n rl) v σ H Q) : gTup K n (tCs K TB own rl) v σ H Q := by
  obtain ⟨W, O, ρ, t, en, r, ρ', e, g⟩ := g
  have e : (match tupT (PB.un t) with | some l => cond (Nat.beq l.length n) (rl (shared l) ρ) .bad | none => .bad) = R.ok () ρ' := e
  have r := (RRep.ofRep r).un
  cases et : tupT (PB.un t) with
  | none => rw [et] at e; cases e
  | some l =>
    rw [et] at e
    have e : cond (Nat.beq l.length n) (rl (shared l) ρ) .bad = R.ok () ρ' := e
    cases e2 : Nat.beq l.length n with
    | false => rw [e2] at e; cases e
    | true =>
      rw [e2] at e
      have e : rl (shared l) ρ = R.ok () ρ' := e
      have et := tupT_some et
      rw [et] at r
      obtain ⟨a, vs, rfl, hq, rr⟩ := r.tup
      exact ⟨a, vs, rfl, hq, by rw [← rr.length]; exact Nat.beq_eq.mp e2, W, O, ρ, l, en, rr, ρ', e, g⟩
theorem sem_yes {Q : Bool → Hp → Prop} (g : tT K TB C Wx yesK σ H Q) : tYes σ H Q := by
  obtain ⟨W, O, ρ, en, g⟩ := g
  exact g true H O Post.refl ⟨rfl, en⟩
/-! ### turns -/
structure CP (own : List Nat) (D : Addr) (H : Hp) (O : OA) (ρ : Env) (H' : Hp) (O' : OA) (ρ' : Env) : Prop where
  ix : ∀ i a, O' i = some a → O i = some a
  keep : ∀ b o, H b = some o → ¬ Ow O ρ b → b ≠ D → nt o → H' b = some o
  per : ∀ b o, H b = some o → nt o → ∃ o', H' b = some o' ∧ nt o'
  ows : ∀ i bb t, slotAt ρ' i = .ow bb t → ∃ t0, slotAt ρ i = .ow bb t0
  ne : ∀ i, i ∉ own → slotAt ρ i ≠ .no → slotAt ρ' i ≠ .no
  ms : ∀ i, i ∉ own → mayStore (slotAt ρ i) = false → mayStore (slotAt ρ' i) = false
  le : ∀ i t, i ∉ own → slotAt ρ i = .le t → slotAt ρ' i = .le t ∧ O' i = O i
theorem CP.of (p : Post H O ρ H' O' ρ') : CP own D H O ρ H' O' ρ' := ⟨p.own, fun b o e n _ z => p.keep b o e n z, p.per, p.ows, fun i _ => p.ne i, fun i _ => p.ms i, fun i t _ => p.le i t⟩
theorem CP.ow (p : CP own D H O ρ H1 O1 ρ1) {b : Addr} (h : Ow O1 ρ1 b) : Ow O ρ b := by
  obtain ⟨i, bb, t, e1, e2⟩ := h
  obtain ⟨t0, e3⟩ := p.ows i bb t e2
  exact ⟨i, bb, t0, p.ix i b e1, e3⟩
theorem CP.trans (p : CP own D H O ρ H1 O1 ρ1) (q : CP own D H1 O1 ρ1 H2 O2 ρ2) : CP own D H O ρ H2 O2 ρ2 where
  ix := fun i a e => p.ix i a (q.ix i a e)
  keep := fun b o e n d z => q.keep b o (p.keep b o e n d z) (fun h => n (p.ow h)) d z
  per := fun b o e z => by
    obtain ⟨o1, e1, z1⟩ := p.per b o e z
    exact q.per b o1 e1 z1
  ows := fun i bb t e => by
    obtain ⟨t1, e1⟩ := q.ows i bb t e
    exact p.ows i bb t1 e1
  ne := fun i c e => q.ne i c (p.ne i c e)
  ms := fun i c e => q.ms i c (p.ms i c e)
  le := fun i t c e => by
    obtain ⟨a, b⟩ := p.le i t c e
    obtain ⟨d, f⟩ := q.le i t c a
    exact ⟨d, f.trans b⟩
theorem CP.wiped : CP own D H O ρ H (wipeO own O) (PB.wipe own ρ) where
  ix := fun i a e => (wipeO_some e).2
  keep := fun b o e _ _ _ => e
  per := fun b o e z => ⟨o, e, z⟩
  ows := fun i bb t e => by
    rw [wipe_at] at e
    split at e
    · cases e
    · exact ⟨t, e⟩
  ne := fun i c e => by rw [wipe_at, if_neg c]; exact e
  ms := fun i c e => by rw [wipe_at, if_neg c]; exact e
  le := fun i t c e => by rw [wipe_at, if_neg c, wipeO_out c]; exact ⟨e, rfl⟩
theorem CP.weak {own2 : List Nat} (h : ∀ i, i ∈ own2 → i ∈ own) (p : CP own2 D H O ρ H1 O1 ρ1) : CP own D H O ρ H1 O1 ρ1 :=
  ⟨p.ix, p.keep, p.per, p.ows, fun i c => p.ne i fun m => c (h i m), fun i c => p.ms i fun m => c (h i m), fun i t c => p.le i t fun m => c (h i m)⟩
theorem CP.updD {vs ws : List V} (hd : H D = some (.lst vs)) : CP own D H O ρ (upd H D (.lst ws)) O ρ where
  ix := fun _ _ e => e
  keep := fun b o e _ d _ => by rw [upd_ne d]; exact e
  per := fun b o e z => by
    by_cases c : b = D
    · subst c; exact ⟨_, upd_same, fun _ z => by cases z⟩
    · rw [upd_ne c]; exact ⟨o, e, z⟩
  ows := fun _ _ t e => ⟨t, e⟩
  ne := fun _ _ e => e
  ms := fun _ _ e => e
  le := fun _ _ _ e => ⟨e, rfl⟩
theorem CP.tups (p : CP own D H O ρ H1 O1 ρ1) (en : EnvRep K TB H W O σ ρ) (hD : ∀ o, H D = some o → ∃ vs, o = .lst vs) : ∀ b o, H b = some o → (∃ xs, o = .tup xs ∨ ∃ ob, o = .frz ob (.tup xs)) → H1 b = some o := fun b o eb h => by
  have nd : b ≠ D := fun c => by
    subst c
    obtain ⟨vs, rfl⟩ := hD o eb
    obtain ⟨xs, h | ⟨ob, h⟩⟩ := h <;> cases h
  refine p.keep b o eb (fun q => ?_) nd (fun ps z => ?_)
  · rcases ow_mut en q eb with ⟨vs, rfl⟩ | ⟨ks, rfl⟩ | ⟨ks, rfl⟩
    · obtain ⟨xs, h | ⟨ob, h⟩⟩ := h <;> cases h
    · obtain ⟨xs, h | ⟨ob, h⟩⟩ := h <;> cases h
    · obtain ⟨xs, h | ⟨ob, h⟩⟩ := h <;> cases h
  · subst z
    obtain ⟨xs, h | ⟨ob, h⟩⟩ := h <;> cases h
/-- the state at a turn: acc stands in the new list -/
structure Rch (K : PySem.W.Frag) (TB : List (Addr × Str)) (own : List Nat) (D : Addr) (H1 : Hp) (O1 : OA) (ρ1 : Env) (W : Addr → Prop) (σ : L2.St) (accT : List T) (H' : Hp) (O' : OA) (ρ' : Env) : Prop where
  cp : CP own D H1 O1 ρ1 H' O' ρ'
  env : EnvRep K TB H' W O' σ ρ'
  acc : ∃ acc, H' D = some (.lst acc) ∧ Reps K H' (NG W O') accT acc
theorem compL_step {step : T → Env → R (List T)} {x : T} {r : List T} {l : List T} (h : compL step (x :: r) ρ = .ok l ρ2) : ∃ l1 ρ1 l2, step x ρ = .ok l1 ρ1 ∧ compL step r ρ1 = .ok l2 ρ2 ∧ l = l1 ++ l2 := by
  have h : ((step x ρ).bind fun l ρ => (compL step r ρ).bind fun m ρ => .ok (l ++ m) ρ) = .ok l ρ2 := h
  obtain ⟨l1, ρ1, e1, h⟩ := bind_ok h
  obtain ⟨l2, ρ3, e2, h⟩ := bind_ok h
  cases h
  exact ⟨l1, ρ1, l2, e1, e2, rfl⟩
/-- the loop of one clause -/
theorem comp_loop {items : List T} {J : It} {step : T → Env → R (List T)} {l accT0 : List T} {B : Addr → Prop} {H0 : Hp} {W0 : Addr → Prop} {O0 : OA} (hJ : ItOk K H0 B (NG W0 O0) items J)
    (hB : ∀ b o, H0 b = some o → ¬ B b → ¬ Ow O1 ρ1 b ∧ b ≠ D) (hN : ∀ b, NG W O1 b → NG W0 O0 b ∨ nn H0 b) (hDl : ∀ o, H1 D = some o → ∃ vs, o = .lst vs) (h01 : ∀ b o, H0 b = some o → b ≠ D → H1 b = some o) (hD0 : ∀ o, H0 D = some o → ∃ vs, o = .lst vs)
    (en1 : EnvRep K TB H1 W O1 σ ρ1) (hrun : compL step items ρ1 = .ok l ρ2)
    (h0 : ∃ acc, H1 D = some (.lst acc) ∧ Reps K H1 (NG W O1) accT0 acc)
    {END : Hp → Prop} (hend : ∀ H' O', Rch K TB own D H1 O1 ρ1 W σ (accT0 ++ l) H' O' ρ2 → END H')
    {TURN : V → Hp → (Hp → Prop) → Prop}
    (hturn : ∀ accT lr H' O' ρ' x t lt ρ3 Nx, Rch K TB own D H1 O1 ρ1 W σ accT H' O' ρ' → Rep K H' (NG W O') t x → step t ρ' = .ok lt ρ3 → accT ++ lt ++ lr = accT0 ++ l → (∀ H4 O4, Rch K TB own D H1 O1 ρ1 W σ (accT ++ lt) H4 O4 ρ3 → Nx H4) → TURN x H' Nx) :
    ∃ Wv : Nat → Nat → Hp → Prop, (∃ m, Wv 0 m H1) ∧ ∀ i m H, Wv i m H → (J.stop i H ∧ END H) ∨ (J.go i H ∧ ∃ Nx : Hp → Prop, (∀ H', Nx H' → ∃ m', m' < m ∧ Wv (i + 1) m' H') ∧ ∀ x H', J.yld i H x H' → TURN x H' Nx) := by
  refine ⟨fun i m H' => ∃ accT lr O' ρ', Rch K TB own D H1 O1 ρ1 W σ accT H' O' ρ' ∧ compL step (items.drop i) ρ' = .ok lr ρ2 ∧ accT ++ lr = accT0 ++ l ∧ i ≤ items.length ∧ m = items.length - i,
    ⟨items.length, accT0, l, O1, ρ1, ⟨.of Post.refl, en1, h0⟩, hrun, rfl, Nat.zero_le _, rfl⟩, fun i m H' ⟨accT, lr, O', ρ', rch, run, hacc, hi, hm⟩ => ?_⟩
  obtain ⟨stp, gos⟩ := hJ H' (NG W O') (fun b o e n z => by
      obtain ⟨n1, n2⟩ := hB b o e n
      exact rch.cp.keep b o (h01 b o e n2) n1 n2 z) (fun b o e h => by
      have nd : b ≠ D := fun c => by
        subst c
        obtain ⟨vs, rfl⟩ := hD0 o e
        obtain ⟨xs, h | ⟨ob, h⟩⟩ := h <;> cases h
      exact rch.cp.tups en1 hDl b o (h01 b o e nd) h) (fun b q => by
      rcases q with q | ⟨j, q⟩
      · exact hN b (.inl q)
      · exact hN b (.inr ⟨j, rch.cp.ix j b q⟩))
  by_cases hlt : i < items.length
  · obtain ⟨x, hx⟩ : ∃ x, items[i]? = some x := ⟨items[i], List.getElem?_eq_getElem hlt⟩
    obtain ⟨go, yl⟩ := gos i x hx
    have ed : items.drop i = x :: items.drop (i + 1) := by
      have e0 := List.drop_eq_getElem_cons hlt
      rw [List.getElem?_eq_getElem hlt] at hx
      cases hx
      exact e0
    rw [ed] at run
    obtain ⟨l1, ρ3, l2, e1, e2, e3⟩ := compL_step run
    subst e3
    refine .inr ⟨go, fun H4 => ∃ O4, Rch K TB own D H1 O1 ρ1 W σ (accT ++ l1) H4 O4 ρ3, fun H4 ⟨O4, r4⟩ => ⟨items.length - (i + 1), by omega, accT ++ l1, l2, O4, ρ3, r4, e2, by rw [List.append_assoc]; exact hacc, hlt, rfl⟩, fun v H'' y => ?_⟩
    obtain ⟨gr, rv⟩ := yl v H'' y
    refine hturn accT l2 H'' O' ρ' v x l1 ρ3 _ ⟨rch.cp.trans (.of (Post.grow gr)), rch.env.grow gr, ?_⟩ rv e1 (by rw [List.append_assoc]; exact hacc) fun H4 O4 r4 => ⟨O4, r4⟩
    obtain ⟨acc, a1, a2⟩ := rch.acc
    exact ⟨acc, gr _ _ a1, a2.grow gr⟩
  · have hi' : i = items.length := by omega
    subst hi'
    rw [List.drop_length] at run
    cases run
    rw [List.append_nil] at hacc
    subst hacc
    exact .inl ⟨stp _ (Nat.le_refl _), hend H' O' rch⟩
end
end PB
end

section
set_option Elab.async false
set_option linter.all false
set_option maxRecDepth 100000
set_option maxHeartbeats 4000000
/-! Sound17: list comprehensions of one clause, of two. -/
namespace PB
open PySem PySem.Spec PyProof.Rows L2
section
variable {K : PySem.W.Frag} {TB : List (Addr × Str)} {C : CT} {Wx : WX}
variable {H H' H1 H2 : Hp} {W W' W1 : Addr → Prop} {O O' O1 O2 : OA} {ρ ρ' ρ1 ρ2 : Env} {σ σ' σ1 σ2 : L2.St} {pk own : List Nat} {D : Addr}
def wF : WX := fun _ _ _ _ => False
theorem ow_lw {b : Addr} (h : Ow (wipeO own O) (lend pk (PB.wipe own ρ)) b) : Ow O (lend pk ρ) b ∧ Ow O ρ b := by
  obtain ⟨i, bb, t, e1, e2⟩ := h
  obtain ⟨c, e1⟩ := wipeO_some e1
  rw [lend_at, wipe_at, if_neg c] at e2
  have e3 : slotAt (lend pk ρ) i = .ow bb t := by rw [lend_at]; exact e2
  refine ⟨⟨i, bb, t, e1, e3⟩, ?_⟩
  exact ow_lend (pk := pk) ⟨i, bb, t, e1, e3⟩
def endO (own : List Nat) (O O' : OA) : OA := fun i => if i ∈ own then O i else O' i
theorem endO_in {i : Nat} (h : i ∈ own) : endO own O O' i = O i := if_pos h
theorem endO_out {i : Nat} (h : i ∉ own) : endO own O O' i = O' i := if_neg h
/-- behind a comprehension: the slots as they were, the list is new -/
theorem comp_end {l : List T} (en : EnvRep K TB H W O σ ρ) (p1 : Post H (wipeO own O) (PB.wipe own ρ) H1 O1 ρ1) (en1 : EnvRep K TB H1 W1 O1 σ ρ1) (hw1 : ∀ b, wipeW own O W b → W1 b) (hD : H1 D = none)
    (rch : Rch K TB own D (upd H1 D (.lst [])) (wipeO own O1) (lend pk (PB.wipe own ρ1)) (plus W1 D) (L2.wipe σ own) l H' O' ρ2) :
    Post H O ρ H' (endO own O O') (unwipe ρ own (unlend (PB.wipe own ρ1) pk ρ2)) ∧ VPost K TB (nw H O ρ) H' W (endO own O O') σ (unwipe ρ own (unlend (PB.wipe own ρ1) pk ρ2)) ⟨.lst l, .f⟩ (.ref D) := by
  have hDH : nn H D := fun o e z => by
    obtain ⟨o', e', _⟩ := p1.per D o e z
    rw [hD] at e'; cases e'
  have ens : EnvRep K TB (upd H1 D (.lst [])) (plus W1 D) (wipeO own O1) (L2.wipe σ own) (lend pk (PB.wipe own ρ1)) :=
    ((en1.wipe (own := own) (L2.wipe_length σ own) (fun i c => L2.wipe_out c)).lend pk).new (Grow.upd hD) hD upd_same (fun _ z => by cases z)
  have hDl : ∀ o, upd H1 D (.lst []) D = some o → ∃ vs, o = .lst vs := fun o e => by rw [upd_same] at e; cases e; exact ⟨_, rfl⟩
  have oOf : ∀ i a, i ∉ own → O' i = some a → O i = some a := fun i a c e => by
    have e2 := (wipeO_some (rch.cp.ix i a e)).2
    exact (wipeO_some (p1.own i a e2)).2
  have owB : ∀ b, Ow (wipeO own O1) (lend pk (PB.wipe own ρ1)) b → Ow (wipeO own O) (PB.wipe own ρ) b := fun b h => p1.ow (ow_lw h).2
  have kp : ∀ b o, H b = some o → ¬ Ow (wipeO own O) (PB.wipe own ρ) b → nt o → H' b = some o := fun b o e n z => by
    have nd : b ≠ D := fun c => by subst c; exact hDH o e z
    exact rch.cp.keep b o (by rw [upd_ne nd]; exact p1.keep b o e n z) (fun q => n (owB b q)) nd z
  have per : ∀ b o, H b = some o → nt o → ∃ o', H' b = some o' ∧ nt o' := fun b o e z => by
    have nd : b ≠ D := fun c => by subst c; exact hDH o e z
    obtain ⟨o1, e1, z1⟩ := p1.per b o e z
    exact rch.cp.per b o1 (by rw [upd_ne nd]; exact e1) z1
  have kt : ∀ b o, H b = some o → (∃ xs, o = .tup xs ∨ ∃ ob, o = .frz ob (.tup xs)) → H' b = some o := fun b o e h => by
    have nd : b ≠ D := fun c => by
      subst c
      refine hDH o e fun ps z => ?_
      subst z
      obtain ⟨xs, h | ⟨ob, h⟩⟩ := h <;> cases h
    exact rch.cp.tups ens hDl b o (by rw [upd_ne nd]; exact p1.tups en.wipeW b o e h) h
  have lenA : (PB.wipe own ρ1).length = ρ2.length := by
    rw [wipe_len, en1.len, rch.env.len, L2.wipe_length]
  have lenB : ρ.length = (unlend (PB.wipe own ρ1) pk ρ2).length := by
    rw [unlend_length, ← lenA, wipe_len, en.len, en1.len]
  have slotIn : ∀ i, i ∈ own → slotAt (unwipe ρ own (unlend (PB.wipe own ρ1) pk ρ2)) i = slotAt ρ i := fun i c => by rw [unwipe_at _ _ _ lenB, if_pos c]
  have slotOut : ∀ i, i ∉ own → slotAt (unwipe ρ own (unlend (PB.wipe own ρ1) pk ρ2)) i = slotAt ρ2 i ∨ ∃ b t, slotAt ρ1 i = .ow b t ∧ slotAt ρ2 i = .le t ∧ O' i = O1 i ∧ slotAt (unwipe ρ own (unlend (PB.wipe own ρ1) pk ρ2)) i = .ow b t := fun i c => by
    rw [unwipe_at _ _ _ lenB, if_neg c]
    rcases unlend_at (PB.wipe own ρ1) pk ρ2 lenA i with ⟨h, _⟩ | ⟨hm, b, t, e1, e2⟩
    · exact .inl h
    · rw [wipe_at, if_neg c] at e1
      obtain ⟨z1, z2⟩ := rch.cp.le i t c (by rw [lend_at, if_pos hm, wipe_at, if_neg c, e1]; rfl)
      rw [wipeO_out c] at z2
      exact .inr ⟨b, t, e1, z1, z2, e2⟩
  have wslot : ∀ i, i ∉ own → slotAt (PB.wipe own ρ) i = slotAt ρ i := fun i c => by rw [wipe_at, if_neg c]
  have lslot : ∀ i, i ∉ own → slotAt (lend pk (PB.wipe own ρ1)) i = slotAt ρ1 i ∨ ∃ b t, slotAt ρ1 i = .ow b t ∧ slotAt (lend pk (PB.wipe own ρ1)) i = .le t := fun i c => by
    rcases lend_slot pk (PB.wipe own ρ1) i with h | ⟨_, b, t, h1, h2⟩
    · rw [wipe_at, if_neg c] at h; exact .inl h
    · rw [wipe_at, if_neg c] at h1; exact .inr ⟨b, t, h1, h2⟩
  have sub : ∀ b, NG (plus W D) (endO own O O') b → NG (plus W1 D) O' b := fun b q => by
    rcases q with (q | q) | ⟨i, q⟩
    · exact .inl (.inl (hw1 b (.inl q)))
    · exact .inl (.inr q)
    · by_cases c : i ∈ own
      · rw [endO_in c] at q; exact .inl (.inl (hw1 b (.inr ⟨i, c, q⟩)))
      · rw [endO_out c] at q; exact .inr ⟨i, q⟩
  have back : ∀ b, NG (plus W D) (endO own O O') b → NG W O b ∨ nn H b := fun b q => by
    rcases q with (q | q) | ⟨i, q⟩
    · exact .inl (.inl q)
    · subst q; exact .inr hDH
    · by_cases c : i ∈ own
      · rw [endO_in c] at q; exact .inl (.inr ⟨i, q⟩)
      · rw [endO_out c] at q; exact .inl (.inr ⟨i, oOf i b c q⟩)
  have owNG : ∀ b, Ow (wipeO own O) (PB.wipe own ρ) b → NG W O b := fun b q => ow_ng (ow_wipe q)
  have oEnd : ∀ i a, endO own O O' i = some a → O i = some a := fun i a e => by
    by_cases c : i ∈ own
    · rw [endO_in c] at e; exact e
    · rw [endO_out c] at e; exact oOf i a c e
  have post : Post H O ρ H' (endO own O O') (unwipe ρ own (unlend (PB.wipe own ρ1) pk ρ2)) := by
    refine ⟨oEnd, fun b o e n z => kp b o e (fun q => n (ow_wipe q)) z, per, fun i e => ?_, fun i bb t e => ?_, fun i e => ?_, fun i t e => ?_⟩
    · by_cases c : i ∈ own
      · rw [slotIn i c]; exact e
      · rcases slotOut i c with h | ⟨b, t, _, _, _, h⟩
        · rw [h]
          refine rch.cp.ne i c ?_
          have e1 := p1.ne i (by rw [wslot i c]; exact e)
          rcases lslot i c with h | ⟨b, t, _, h⟩
          · rw [h]; exact e1
          · rw [h]; nofun
        · rw [h]; nofun
    · by_cases c : i ∈ own
      · rw [slotIn i c] at e; exact ⟨t, e⟩
      · have go : ∀ {t0}, slotAt ρ1 i = .ow bb t0 → ∃ t1, slotAt ρ i = .ow bb t1 := fun h => by
          obtain ⟨t1, h1⟩ := p1.ows i bb _ h
          rw [wslot i c] at h1
          exact ⟨t1, h1⟩
        rcases slotOut i c with h | ⟨b, u, h1, _, _, h⟩
        · rw [h] at e
          obtain ⟨t0, e0⟩ := rch.cp.ows i bb t e
          rcases lslot i c with h | ⟨b, u, h1, h2⟩
          · rw [h] at e0; exact go e0
          · rw [h2] at e0; cases e0
        · rw [h] at e; cases e; exact go h1
    · by_cases c : i ∈ own
      · rw [slotIn i c]; exact e
      · have e1 := p1.ms i (by rw [wslot i c]; exact e)
        rcases slotOut i c with h | ⟨b, u, h1, _, _, h⟩
        · rw [h]
          refine rch.cp.ms i c ?_
          rcases lslot i c with h | ⟨b, t, _, h⟩
          · rw [h]; exact e1
          · rw [h]; rfl
        · rw [h]; rw [h1] at e1; exact e1
    · by_cases c : i ∈ own
      · rw [slotIn i c, endO_in c]; exact ⟨e, rfl⟩
      · obtain ⟨e1, e2⟩ := p1.le i t (by rw [wslot i c]; exact e)
        rw [wipeO_out c] at e2
        have e3 : slotAt (lend pk (PB.wipe own ρ1)) i = .le t := by
          rcases lslot i c with h | ⟨b, u, h1, h2⟩
          · rw [h]; exact e1
          · rw [e1] at h1; cases h1
        obtain ⟨e4, e5⟩ := rch.cp.le i t c e3
        rw [wipeO_out c] at e5
        rw [endO_out c]
        rcases slotOut i c with h | ⟨b, u, h1, _⟩
        · rw [h]; exact ⟨e4, e5.trans e2⟩
        · rw [e1] at h1; cases h1
  refine ⟨post, D, rfl, .inl hDH, fun q => ?_, ?_, ?_⟩
  · rcases q with q | ⟨i, q⟩
    · obtain ⟨o, ho, z⟩ := en.wt D q
      exact hDH o ho z
    · obtain ⟨o, ho, z⟩ := en.othN (oEnd i D q)
      exact hDH o ho z
  · obtain ⟨acc, a1, a2⟩ := rch.acc
    exact .inl ⟨l, acc, rfl, a1, a2.weak sub⟩
  · refine ⟨?_, fun i => ?_, fun i j a e1 e2 => en.inj i j a (oEnd i a e1) (oEnd j a e2), fun i a e w => ?_, fun a w => ?_, rch.env.tab⟩
    · rw [unwipe_len, unlend_length, ← lenA, wipe_len, en1.len]
    · by_cases c : i ∈ own
      · rw [slotIn i c, endO_in c]
        have q := en.sl i
        have kr : ∀ {t v}, Rep K H (NG W O) t v → Rep K H' (NG (plus W D) (endO own O O')) t v := fun r => r.keep (fun b o e n z => kp b o e (fun q => n (owNG b q)) z) kt back
        have ko : ∀ {t a}, O i = some a → OwnRep K H (NG W O) t a → OwnRep K H' (NG (plus W D) (endO own O O')) t a := fun {t a} ea r => by
          have na : ¬ Ow (wipeO own O) (PB.wipe own ρ) a := fun ⟨j, bb, u, z1, z2⟩ => by
            obtain ⟨cj, z1⟩ := wipeO_some z1
            have := en.inj i j a ea z1
            subst this
            exact cj c
          rcases r with ⟨ts, vs, e, h, r⟩ | ⟨ts, vs, e, h, r⟩ | ⟨ts, vs, e, h, r⟩
          · exact .inl ⟨ts, vs, e, kp _ _ h na (fun _ z => by cases z), r.keep (fun b o e n z => kp b o e (fun q => n (owNG b q)) z) kt back⟩
          · exact .inr (.inl ⟨ts, vs, e, kp _ _ h na (fun _ z => by cases z), r.keep (fun b o e n z => kp b o e (fun q => n (owNG b q)) z) kt back⟩)
          · exact .inr (.inr ⟨ts, vs, e, kp _ _ h na (fun _ z => by cases z), r⟩)
        revert q
        cases slotAt ρ i with
        | no => exact id
        | sh t => rintro ⟨q0, v, ev, r⟩; exact ⟨q0, v, ev, kr r⟩
        | fz t => rintro ⟨q0, v, ev, r⟩; exact ⟨q0, v, ev, kr r⟩
        | ow b t => rintro ⟨a, q0, ev, r⟩; exact ⟨a, q0, ev, ko q0 r⟩
        | le t => rintro ⟨a, q0, ev, r⟩; exact ⟨a, q0, ev, ko q0 r⟩
      · have q := rch.env.sl i
        rw [L2.wipe_out c] at q
        rw [endO_out c]
        rcases slotOut i c with h | ⟨b, u, h1, h2, _, h⟩
        · rw [h]; exact q.weak sub
        · rw [h2] at q
          rw [h]
          exact SlRep.weak (s := .ow b u) sub q
    · rcases w with w | w
      · exact en.out i a (oEnd i a e) w
      · subst w
        obtain ⟨o, ho, z⟩ := en.othN (oEnd i a e)
        exact hDH o ho z
    · rcases w with w | w
      · obtain ⟨o, e, z⟩ := en.wt a w
        exact per a o e z
      · subst w
        obtain ⟨acc, a1, _⟩ := rch.acc
        exact ⟨_, a1, fun _ z => by cases z⟩
/-- at the end of a turn: nothing more, or one item more -/
theorem rch_skip {accT : List T} {σs : L2.St} {Hs Ha Hb : Hp} {Os Oa Ob : OA} {ρs ρa ρb : Env} (rch : Rch K TB own D Hs Os ρs W σs accT H' O' ρ') (wD : W D) (pa : Post H' O' ρ' Hb Ob ρb) (enb : EnvRep K TB Hb W Ob σ2 ρb) (hl : σs.length = σ2.length) (hs : ∀ i, i ∉ own → σs[i]? = σ2[i]?) :
    Rch K TB own D Hs Os ρs W σs (accT ++ []) Hb (wipeO own Ob) (PB.wipe own ρb) := by
  refine ⟨(rch.cp.trans (.of pa)).trans .wiped, enb.wipe hl hs, ?_⟩
  obtain ⟨acc, a1, a2⟩ := rch.acc
  rw [List.append_nil]
  refine ⟨acc, pa.keep _ _ a1 (fun q => ?_) (fun _ z => by cases z), (a2.post pa rch.env).weak ng_wipeO⟩
  obtain ⟨i, _, _, z, _⟩ := q
  exact rch.env.out i D z wD
theorem rch_item {accT : List T} {σs : L2.St} {Hs Hb : Hp} {Os Ob : OA} {ρs ρb : Env} {t : T} {y : V} (rch : Rch K TB own D Hs Os ρs W σs accT H' O' ρ') (wD : W D) (pa : Post H' O' ρ' Hb Ob ρb) (enb : EnvRep K TB Hb W Ob σ2 ρb) (hl : σs.length = σ2.length) (hs : ∀ i, i ∉ own → σs[i]? = σ2[i]?)
    (ry : Rep K Hb (NG W Ob) t y) : ∃ acc, Hb D = some (.lst acc) ∧ acc.length = accT.length ∧ Rch K TB own D Hs Os ρs W σs (accT ++ [t]) (upd Hb D (.lst (acc ++ [y]))) (wipeO own Ob) (PB.wipe own ρb) := by
  obtain ⟨acc, a1, a2⟩ := rch.acc
  have b1 : Hb D = some (.lst acc) := pa.keep _ _ a1 (fun q => by
    obtain ⟨i, _, _, z, _⟩ := q
    exact rch.env.out i D z wD) (fun _ z => by cases z)
  have b2 := a2.post pa rch.env
  refine ⟨acc, b1, a2.length.symm, ((rch.cp.trans (.of pa)).trans (.updD b1)).trans .wiped, (enb.updW wD b1).wipe hl hs, acc ++ [y], upd_same, ?_⟩
  exact ((b2.append (.cons ry .nil)).upd (.inl wD) .upd b1 (.inl ⟨_, rfl⟩)).weak ng_wipeO
theorem comp1_go {Q : VK} {r : R (List T)} (g : Go TB C Wx (kdV K TB σ) H W O ρ (comp1 ρ own r) Q) : ∃ l ρe, r = .ok l ρe ∧ sized l = true ∧ Go TB C Wx (kdV K TB σ) H W O ρ (.ok ⟨.lst l, .f⟩ (unwipe ρ own ρe)) Q := by
  cases r with
  | bad => exact g.elim
  | exc c x => exact g.elim
  | ok l ρe =>
    have g : Go TB C Wx (kdV K TB σ) H W O ρ (cond (sized l) (.ok ⟨.lst l, .f⟩ (unwipe ρ own ρe)) .bad) Q := g
    cases e : sized l with
    | false => rw [e] at g; exact g.elim
    | true => rw [e] at g; exact ⟨l, ρe, rfl, e, g⟩
theorem sem_comp1J {it : EI} {rt : EA} {rc : Env → R Bool} {re : EV} {Q : VK} {items : List T} (en : EnvRep K TB H W O σ ρ) (g : Go TB C Wx (kdV K TB σ) H W O ρ (compK own (genK own pk rt it rc (eltK re)) ρ) Q) (eit : it (PB.wipe own ρ) = .ok items ρ1) {J : It} {Hx : Hp}
    (p1 : Post H (wipeO own O) (PB.wipe own ρ) H1 O1 ρ1) (vp : (kdI K TB σ pk).VP (nw H (wipeO own O) (PB.wipe own ρ)) (wipeW own O W) items H1 O1 ρ1 J) :
    tLc (fun _ _ R => R J H1) (tC K TB own rt) (tT K TB C wF rc) (tE K TB C wF re) own σ Hx Q := by
  obtain ⟨l, ρe, erun, hsz, g⟩ := comp1_go g
  have erun : ((it (PB.wipe own ρ)).bind fun items ρ => genL pk (genStep own rt rc (eltK re)) items (PB.wipe own ρ)) = .ok l ρe := erun
  rw [eit] at erun
  have erun : genL pk (genStep own rt rc (eltK re)) items (PB.wipe own ρ1) = .ok l ρe := erun
  obtain ⟨ρ2, erun2, eun⟩ := mapEnv_ok erun
  subst eun
  obtain ⟨W1, hw1, en1, iok, _⟩ := vp
  intro D hD
  have gr : Grow H1 (upd H1 D (.lst [])) := Grow.upd hD
  have ens : EnvRep K TB (upd H1 D (.lst [])) (plus W1 D) (wipeO own O1) (L2.wipe σ own) (lend pk (PB.wipe own ρ1)) :=
    ((en1.wipe (own := own) (L2.wipe_length σ own) (fun i c => L2.wipe_out c)).lend pk).new gr hD upd_same (fun _ z => by cases z)
  have nd : ∀ {b o}, H1 b = some o → b ≠ D := fun e c => by subst c; rw [hD] at e; cases e
  refine comp_loop (own := own) (D := D) (accT0 := []) (σ := L2.wipe σ own) (W := plus W1 D) (END := fun H' => Q (.ref D) H') (TURN := fun x H' Nx => tC K TB own rt x (L2.wipe σ own) H' fun σ2 H2 => L2.wipe σ2 own = L2.wipe σ own ∧ tT K TB C wF rc σ2 H2 fun b H3 =>
      if b = true then tE K TB C wF re σ2 H3 fun y H4 => ∃ acc, H4 D = some (.lst acc) ∧ acc.length < sizeLine ∧ Nx (upd H4 D (.lst (acc ++ [y]))) else Nx H3)
    iok (fun b o e n => ⟨fun q => n (.inl (ow_lw q).1), nd e⟩) (fun b q => ?_) (fun o e => by rw [upd_same] at e; cases e; exact ⟨_, rfl⟩) (fun b o e d => by rw [upd_ne d]; exact e) (fun o e => by rw [hD] at e; cases e) ens erun2 ⟨[], upd_same, .nil⟩ (fun H' O' rch => ?_) (fun accT lr H' O' ρ' x t lt ρ3 Nx rch rt' est hacc hNx => ?_)
  · rcases q with (q | q) | ⟨i, q⟩
    · exact .inl (.inl q)
    · subst q; exact .inr (nn.of hD)
    · exact .inl (.inr ⟨i, (wipeO_some q).2⟩)
  · rw [List.nil_append] at rch
    obtain ⟨z1, z2⟩ := comp_end en p1 en1 hw1 hD rch
    exact g _ H' _ z1 z2
  · have est : (((rt ⟨t, .s⟩ ρ').bind fun _ ρ => (rc ρ).bind fun b ρ => cond b (eltK re ρ) (.ok [] ρ)).mapEnv (PB.wipe own)) = .ok lt ρ3 := est
    obtain ⟨ρ3', est2, e3⟩ := mapEnv_ok est
    subst e3
    obtain ⟨u, ρa, etg, est3⟩ := bind_ok est2
    obtain ⟨b, ρb, ec, est4⟩ := bind_ok est3
    refine ⟨plus W1 D, O', ρ', t, rch.env, rt', ρa, etg, fun σ2 Oa pa hl hs ena => ⟨?_, plus W1 D, Oa, ρa, ena, ?_⟩⟩
    · exact lwipe_eq (by rw [hl, L2.wipe_length]) fun i c => by rw [hs i c, L2.wipe_out c]
    · rw [ec]
      intro b' H3 O3 p3 ⟨eb, en3⟩
      subst eb
      have hl' : (L2.wipe σ own).length = σ2.length := hl.symm
      have hs' : ∀ i, i ∉ own → (L2.wipe σ own)[i]? = σ2[i]? := fun i c => (hs i c).symm
      cases b' with
      | false =>
        cases est4
        rw [if_neg (by decide)]
        exact hNx H3 _ (rch_skip (Ha := H3) (Oa := Oa) (ρa := ρa) rch (.inr rfl) (pa.trans p3) en3 hl' hs')
      | true =>
        rw [if_pos rfl]
        have est4 : ((re ρb).bind fun x ρ => ofOpt (giv [x]) ρ) = .ok lt ρ3' := est4
        obtain ⟨xe, ρc, ee, est⟩ := bind_ok est4
        refine ⟨plus W1 D, O3, ρb, en3, ?_⟩
        rw [ee]
        intro y H4 O4 p4 vp4
        have vp4 : VPost K TB (nw H3 O3 ρb) H4 (plus W1 D) O4 σ2 ρc xe y := vp4
        cases eg : giv [xe] with
        | none => rw [eg] at est; cases est
        | some lt' =>
          rw [eg] at est
          cases est
          obtain ⟨te, r0, eg1, eg2, rfl⟩ := giv_cons eg
          cases eg2
          have ry := vp4.giv1 Post.refl eg1
          obtain ⟨acc, a1, a2, a3⟩ := rch_item rch (.inr rfl) ((pa.trans p3).trans p4) vp4.env hl' hs' ry
          refine ⟨acc, a1, ?_, hNx _ _ a3⟩
          have hz := sized_le hsz
          have := congrArg List.length hacc
          simp only [List.length_append, List.length_singleton, List.length_nil] at this
          omega
theorem sem_comp1 {it : EI} {rt : EA} {rc : Env → R Bool} {re : EV} {Q : VK} (g : tE K TB C Wx (compK own (genK own pk rt it rc (eltK re))) σ H Q) :
    tLc (tI K TB C Wx pk it) (tC K TB own rt) (tT K TB C wF rc) (tE K TB C wF re) own σ H Q := by
  obtain ⟨W, O, ρ, en, g⟩ := g
  obtain ⟨l, ρe, erun, hsz, g0⟩ := comp1_go g
  have erun : ((it (PB.wipe own ρ)).bind fun items ρ => genL pk (genStep own rt rc (eltK re)) items (PB.wipe own ρ)) = .ok l ρe := erun
  obtain ⟨items, ρ1, eit, erun⟩ := bind_ok erun
  refine ⟨wipeW own O W, wipeO own O, PB.wipe own ρ, en.wipeW, ?_⟩
  rw [eit]
  intro J H1 O1 p1 vp
  exact sem_comp1J (Hx := H) en g eit p1 vp
end
end PB
end

section
set_option Elab.async false
set_option linter.all false
set_option maxRecDepth 100000
set_option maxHeartbeats 4000000
/-! Sound18: list comprehensions of two clauses. -/
namespace PB
open PySem PySem.Spec PyProof.Rows L2
section
variable {K : PySem.W.Frag} {TB : List (Addr × Str)} {C : CT} {Wx : WX}
variable {H H' H1 H2 H3 H4 : Hp} {W W' W1 W2 : Addr → Prop} {O O' O1 O2 O3 O4 : OA} {ρ ρ' ρ1 ρ2 ρ3 ρ4 : Env} {σ σ' σ1 σ2 : L2.St} {pk own ownB : List Nat} {D : Addr}
/-- a turn whose clause is the last one -/
theorem turn_elt {rt : EA} {rc : Env → R Bool} {re : EV} {σs σ0 : L2.St} {accT lr l : List T} {Hs : Hp} {Os : OA} {ρs : Env} {x : V} {t : T} {lt : List T} {Nx : Hp → Prop} (hσ : L2.wipe σ0 own = σs) (wD : W D) (hsz : sized l = true)
    (rch : Rch K TB own D Hs Os ρs W σs accT H' O' ρ') (rt' : Rep K H' (NG W O') t x) (est : genStep own rt rc (eltK re) t ρ' = .ok lt ρ3) (hacc : (accT ++ lt ++ lr).length ≤ l.length) (hNx : ∀ H4 O4, Rch K TB own D Hs Os ρs W σs (accT ++ lt) H4 O4 ρ3 → Nx H4) :
    tC K TB own rt x σs H' fun σ2 H2 => L2.wipe σ2 own = L2.wipe σ0 own ∧ tT K TB C wF rc σ2 H2 fun b H3 =>
      if b = true then tE K TB C wF re σ2 H3 fun y H4 => ∃ acc, H4 D = some (.lst acc) ∧ acc.length < sizeLine ∧ Nx (upd H4 D (.lst (acc ++ [y]))) else Nx H3 := by
  have est : (((rt ⟨t, .s⟩ ρ').bind fun _ ρ => (rc ρ).bind fun b ρ => cond b (eltK re ρ) (.ok [] ρ)).mapEnv (PB.wipe own)) = .ok lt ρ3 := est
  obtain ⟨ρ3', est2, e3⟩ := mapEnv_ok est
  subst e3
  obtain ⟨u, ρa, etg, est3⟩ := bind_ok est2
  obtain ⟨b, ρb, ec, est4⟩ := bind_ok est3
  refine ⟨W, O', ρ', t, rch.env, rt', ρa, etg, fun σ2 Oa pa hl hs ena => ⟨?_, W, Oa, ρa, ena, ?_⟩⟩
  · subst hσ
    exact lwipe_eq (by rw [hl, L2.wipe_length]) fun i c => by rw [hs i c, L2.wipe_out c]
  · rw [ec]
    intro b' H3 O3 p3 ⟨eb, en3⟩
    subst eb
    have hl' : σs.length = σ2.length := hl.symm
    have hs' : ∀ i, i ∉ own → σs[i]? = σ2[i]? := fun i c => (hs i c).symm
    cases b' with
    | false =>
      cases est4
      rw [if_neg (by decide)]
      exact hNx H3 _ (rch_skip (Ha := H3) (Oa := Oa) (ρa := ρa) rch wD (pa.trans p3) en3 hl' hs')
    | true =>
      rw [if_pos rfl]
      have est4 : ((re ρb).bind fun x ρ => ofOpt (giv [x]) ρ) = .ok lt ρ3' := est4
      obtain ⟨xe, ρc, ee, est⟩ := bind_ok est4
      refine ⟨W, O3, ρb, en3, ?_⟩
      rw [ee]
      intro y H4 O4 p4 vp4
      have vp4 : VPost K TB (nw H3 O3 ρb) H4 W O4 σ2 ρc xe y := vp4
      cases eg : giv [xe] with
      | none => rw [eg] at est; cases est
      | some lt' =>
        rw [eg] at est
        cases est
        obtain ⟨te, r0, eg1, eg2, rfl⟩ := giv_cons eg
        cases eg2
        have ry := vp4.giv1 Post.refl eg1
        obtain ⟨acc, a1, a2, a3⟩ := rch_item rch wD ((pa.trans p3).trans p4) vp4.env hl' hs' ry
        refine ⟨acc, a1, ?_, hNx _ _ a3⟩
        have hz := sized_le hsz
        simp only [List.length_append, List.length_singleton, List.length_nil] at hacc
        omega
/-- behind an inner loop -/
theorem CP.unl (hl : ρ.length = ρ'.length) (p : CP own D H O (lend pk ρ) H' O' ρ') (hp : ∀ i, i ∈ own → slotAt ρ i = .no) : CP own D H O ρ H' O' (unlend ρ pk ρ') := by
  have sl : ∀ i, slotAt (unlend ρ pk ρ') i = slotAt ρ' i ∨ ∃ b t, i ∉ own ∧ slotAt ρ i = .ow b t ∧ slotAt ρ' i = .le t ∧ O' i = O i ∧ slotAt (unlend ρ pk ρ') i = .ow b t := fun i => by
    rcases unlend_at ρ pk ρ' hl i with ⟨h, _⟩ | ⟨hm, b, t, e1, e2⟩
    · exact .inl h
    · have c : i ∉ own := fun c => by rw [hp i c] at e1; cases e1
      obtain ⟨z1, z2⟩ := p.le i t c (by rw [lend_at, if_pos hm, e1]; rfl)
      exact .inr ⟨b, t, c, e1, z1, z2, e2⟩
  refine ⟨p.ix, fun b o e n d z => p.keep b o e (fun q => n (ow_lend q)) d z, p.per, fun i bb t e => ?_, fun i c e => ?_, fun i c e => ?_, fun i t c e => ?_⟩
  · rcases sl i with h | ⟨b, u, _, h1, _, _, h⟩
    · rw [h] at e
      obtain ⟨t0, e0⟩ := p.ows i bb t e
      rcases lend_slot pk ρ i with q | ⟨_, b, u, q1, q2⟩
      · rw [q] at e0; exact ⟨t0, e0⟩
      · rw [q2] at e0; cases e0
    · rw [h] at e; cases e; exact ⟨_, h1⟩
  · rcases sl i with h | ⟨b, u, _, h1, _, _, h⟩
    · rw [h]
      refine p.ne i c ?_
      rcases lend_slot pk ρ i with q | ⟨_, b, u, q1, q2⟩
      · rw [q]; exact e
      · rw [q2]; nofun
    · rw [h]; nofun
  · rcases sl i with h | ⟨b, u, _, h1, _, _, h⟩
    · rw [h]
      refine p.ms i c ?_
      rcases lend_slot pk ρ i with q | ⟨_, b, u, q1, q2⟩
      · rw [q]; exact e
      · rw [q2]; rfl
    · rw [h]; rw [h1] at e; exact e
  · have e1 : slotAt (lend pk ρ) i = .le t := by
      rcases lend_slot pk ρ i with q | ⟨_, b, u, q1, q2⟩
      · rw [q]; exact e
      · rw [e] at q1; cases q1
    obtain ⟨z1, z2⟩ := p.le i t c e1
    rcases sl i with h | ⟨b, u, _, h1, _, _, h⟩
    · rw [h]; exact ⟨z1, z2⟩
    · rw [e] at h1; cases h1
theorem EnvRep.unl (hl : ρ.length = ρ'.length) (p : CP own D H O (PB.lend pk ρ) H' O' ρ') (hp : ∀ i, i ∈ own → slotAt ρ i = .no) (en : EnvRep K TB H' W O' σ' ρ') : EnvRep K TB H' W O' σ' (PB.unlend ρ pk ρ') := by
  refine ⟨(unlend_length ρ pk ρ').trans en.len, fun i => ?_, en.inj, en.out, en.wt, en.tab⟩
  have q := en.sl i
  rcases unlend_at ρ pk ρ' hl i with ⟨h, _⟩ | ⟨hm, b, t, e1, e2⟩
  · rw [h]; exact q
  · have c : i ∉ own := fun c => by rw [hp i c] at e1; cases e1
    obtain ⟨z1, z2⟩ := p.le i t c (by rw [lend_at, if_pos hm, e1]; rfl)
    rw [z1] at q
    rw [e2]; exact q
theorem sem_comp2 {it it1 : EI} {rt rt1 : EA} {rc rc1 : Env → R Bool} {re : EV} {pk1 : List Nat} {Q : VK} (hsub : ∀ i, i ∈ ownB → i ∈ own) (g : tE K TB C Wx (compK own (genK own pk rt it rc (genK ownB pk1 rt1 it1 rc1 (eltK re)))) σ H Q) :
    tLc2 (tI K TB C Wx pk it) (tC K TB own rt) (tT K TB C wF rc) (tI K TB C wF pk1 it1) (tC K TB ownB rt1) (tT K TB C wF rc1) (tE K TB C wF re) own ownB σ H Q := by
  obtain ⟨W, O, ρ, en, g⟩ := g
  obtain ⟨l, ρe, erun, hsz, g⟩ := comp1_go g
  have erun : ((it (PB.wipe own ρ)).bind fun items ρ => genL pk (genStep own rt rc (genK ownB pk1 rt1 it1 rc1 (eltK re))) items (PB.wipe own ρ)) = .ok l ρe := erun
  obtain ⟨items, ρ1, eit, erun⟩ := bind_ok erun
  obtain ⟨ρ2, erun2, eun⟩ := mapEnv_ok erun
  subst eun
  refine ⟨wipeW own O W, wipeO own O, PB.wipe own ρ, en.wipeW, ?_⟩
  rw [eit]
  intro J H1 O1 p1 ⟨W1, hw1, en1, iok, _⟩ D hD
  have gr : Grow H1 (upd H1 D (.lst [])) := Grow.upd hD
  have ens : EnvRep K TB (upd H1 D (.lst [])) (plus W1 D) (wipeO own O1) (L2.wipe σ own) (lend pk (PB.wipe own ρ1)) :=
    ((en1.wipe (own := own) (L2.wipe_length σ own) (fun i c => L2.wipe_out c)).lend pk).new gr hD upd_same (fun _ z => by cases z)
  have nd : ∀ {b o}, H1 b = some o → b ≠ D := fun e c => by subst c; rw [hD] at e; cases e
  refine comp_loop (own := own) (D := D) (accT0 := []) (σ := L2.wipe σ own) (W := plus W1 D) (END := fun H' => Q (.ref D) H') (TURN := fun x H' Nx => tC K TB own rt x (L2.wipe σ own) H' fun σ2 H2 => L2.wipe σ2 own = L2.wipe σ own ∧ tT K TB C wF rc σ2 H2 fun b H3 =>
      if b = true then tI K TB C wF pk1 it1 σ2 H3 fun J1 H4 => ∃ Wv : Nat → Nat → Hp → Prop, (∃ m, Wv 0 m H4) ∧ ∀ j k H, Wv j k H →
        (J1.stop j H ∧ Nx H) ∨ (J1.go j H ∧ ∃ Nx1 : Hp → Prop, (∀ H', Nx1 H' → ∃ k', k' < k ∧ Wv (j + 1) k' H') ∧ ∀ x H', J1.yld j H x H' → tC K TB ownB rt1 x (L2.wipe σ2 ownB) H' fun σ3 H5 => L2.wipe σ3 ownB = L2.wipe σ2 ownB ∧ tT K TB C wF rc1 σ3 H5 fun b H6 =>
          if b = true then tE K TB C wF re σ3 H6 fun y H7 => ∃ acc, H7 D = some (.lst acc) ∧ acc.length < sizeLine ∧ Nx1 (upd H7 D (.lst (acc ++ [y]))) else Nx1 H6)
      else Nx H3)
    iok (fun b o e n => ⟨fun q => n (.inl (ow_lw q).1), nd e⟩) (fun b q => ?_) (fun o e => by rw [upd_same] at e; cases e; exact ⟨_, rfl⟩) (fun b o e d => by rw [upd_ne d]; exact e) (fun o e => by rw [hD] at e; cases e) ens erun2 ⟨[], upd_same, .nil⟩ (fun H' O' rch => ?_) (fun accT lr H' O' ρ' x t lt ρ3 Nx rch rt' est hacc hNx => ?_)
  · rcases q with (q | q) | ⟨i, q⟩
    · exact .inl (.inl q)
    · subst q; exact .inr (nn.of hD)
    · exact .inl (.inr ⟨i, (wipeO_some q).2⟩)
  · rw [List.nil_append] at rch
    obtain ⟨z1, z2⟩ := comp_end en p1 en1 hw1 hD rch
    exact g _ H' _ z1 z2
  · have est : (((rt ⟨t, .s⟩ ρ').bind fun _ ρ => (rc ρ).bind fun b ρ => cond b (genK ownB pk1 rt1 it1 rc1 (eltK re) ρ) (.ok [] ρ)).mapEnv (PB.wipe own)) = .ok lt ρ3 := est
    obtain ⟨ρ3', est2, e3⟩ := mapEnv_ok est
    subst e3
    obtain ⟨u, ρa, etg, est3⟩ := bind_ok est2
    obtain ⟨b, ρb, ec, est4⟩ := bind_ok est3
    refine ⟨plus W1 D, O', ρ', t, rch.env, rt', ρa, etg, fun σ2 Oa pa hl hs ena => ⟨?_, plus W1 D, Oa, ρa, ena, ?_⟩⟩
    · exact lwipe_eq (by rw [hl, L2.wipe_length]) fun i c => by rw [hs i c, L2.wipe_out c]
    · rw [ec]
      intro b' H3 O3 p3 ⟨eb, en3⟩
      subst eb
      have hl' : (L2.wipe σ own).length = σ2.length := hl.symm
      have hs' : ∀ i, i ∉ own → (L2.wipe σ own)[i]? = σ2[i]? := fun i c => (hs i c).symm
      cases b' with
      | false =>
        cases est4
        rw [if_neg (by decide)]
        exact hNx H3 _ (rch_skip (Ha := H3) (Oa := Oa) (ρa := ρa) rch (.inr rfl) (pa.trans p3) en3 hl' hs')
      | true =>
        rw [if_pos rfl]
        have est4 : ((it1 ρb).bind fun items ρ => genL pk1 (genStep ownB rt1 rc1 (eltK re)) items (PB.wipe ownB ρ)) = .ok lt ρ3' := est4
        obtain ⟨items1, ρc, eit1, est5⟩ := bind_ok est4
        obtain ⟨ρd, erun3, eun3⟩ := mapEnv_ok est5
        subst eun3
        refine ⟨plus W1 D, O3, ρb, en3, ?_⟩
        rw [eit1]
        intro J1 H4 O4 p4 ⟨W2, hw2, en4, iok4, hnw⟩
        have pp : Post H' O' ρ' H4 O4 ρc := (pa.trans p3).trans p4
        have wD : W2 D := hw2 D (.inr rfl)
        have nOw : ∀ b, Ow O' ρ' b → b ≠ D := fun b ⟨i, _, _, z, _⟩ c => rch.env.out i b z (by rw [c]; exact .inr rfl)
        obtain ⟨acc, a1, a2⟩ := rch.acc
        have b1 : H4 D = some (.lst acc) := pp.keep _ _ a1 (fun q => nOw D q rfl) (fun _ z => by cases z)
        have c1 : H3 D = some (.lst acc) := (pa.trans p3).keep _ _ a1 (fun q => nOw D q rfl) (fun _ z => by cases z)
        have r3 : Reps K H3 (NG (plus W1 D) O3) accT acc := a2.post (pa.trans p3) rch.env
        have b2 : Reps K H4 (NG W2 (wipeO ownB O4)) accT acc := r3.keep (fun b o e n z => p4.keep b o e (fun q => n (ow_ng q)) z) (p4.tups en3) fun b q => by
          rcases q with q | ⟨i, q⟩
          · rcases hnw b q with q | q | q
            · exact .inl (.inl q)
            · exact .inr q
            · exact .inl (ow_ng q)
          · exact .inl (.inr ⟨i, p4.own i b (wipeO_some q).2⟩)
        have enw : EnvRep K TB H4 W2 (wipeO ownB O4) (L2.wipe σ2 ownB) (lend pk1 (PB.wipe ownB ρc)) := (en4.wipe (own := ownB) (L2.wipe_length σ2 ownB) (fun i c => L2.wipe_out c)).lend pk1
        have hDl : ∀ o, H4 D = some o → ∃ vs, o = .lst vs := fun o e => by rw [b1] at e; cases e; exact ⟨_, rfl⟩
        refine comp_loop (own := ownB) (D := D) (accT0 := accT) (σ := L2.wipe σ2 ownB) (W := W2) (END := fun H' => Nx H') (TURN := fun x H' Nx1 => tC K TB ownB rt1 x (L2.wipe σ2 ownB) H' fun σ3 H5 => L2.wipe σ3 ownB = L2.wipe σ2 ownB ∧ tT K TB C wF rc1 σ3 H5 fun b H6 =>
            if b = true then tE K TB C wF re σ3 H6 fun y H7 => ∃ acc, H7 D = some (.lst acc) ∧ acc.length < sizeLine ∧ Nx1 (upd H7 D (.lst (acc ++ [y]))) else Nx1 H6)
          iok4 (fun b o e n => ⟨fun q => n (.inl (ow_lw q).1), fun c => n (.inr (.inr c))⟩) (fun b q => .inl (ng_wipeO b q)) hDl (fun b o e d => e) hDl enw erun3 ⟨acc, b1, b2⟩ (fun H' O'' rch2 => ?_) (fun accT' lr' H'' O'' ρ'' x t lt' ρ3'' Nx1 rch2 rt2 est2 hacc2 hNx2 => ?_)
        · have hlen : (PB.wipe ownB ρc).length = ρd.length := by rw [wipe_len, en4.len, rch2.env.len, L2.wipe_length]
          have hno : ∀ i, i ∈ ownB → slotAt (PB.wipe ownB ρc) i = .no := fun i c => by rw [wipe_at, if_pos c]
          have cpu := CP.unl hlen rch2.cp hno
          have enu := EnvRep.unl hlen rch2.cp hno rch2.env
          refine hNx H' (wipeO own O'') ⟨((((rch.cp.trans (.of pp)).trans (CP.weak hsub .wiped)).trans (cpu.weak hsub))).trans .wiped, ?_, ?_⟩
          · refine (enu.drop hw2).wipe (by rw [L2.wipe_length, L2.wipe_length, ← hl', L2.wipe_length]) fun i c => ?_
            rw [L2.wipe_out fun m => c (hsub i m)]
            exact hs' i c
          · obtain ⟨acc', d1, d2⟩ := rch2.acc
            exact ⟨acc', d1, d2.weak fun b q => ng_mono hw2 b (ng_wipeO b q)⟩
        · refine turn_elt (l := l) (lr := lr' ++ lr) (σ0 := σ2) rfl wD hsz rch2 rt2 est2 ?_ hNx2
          have h1 := congrArg List.length hacc2
          have h2 := congrArg List.length hacc
          simp only [List.length_append, List.length_nil] at h1 h2 ⊢
          omega
end
end PB
end

section
set_option Elab.async false
set_option linter.all false
set_option maxRecDepth 100000
set_option maxHeartbeats 4000000
/-! Sound19: dict comprehensions of one clause. -/
namespace PB
open PySem PySem.Spec PyProof.Rows L2
section
variable {K : PySem.W.Frag} {TB : List (Addr × Str)} {C : CT} {Wx : WX}
variable {H H' H1 H2 : Hp} {W W' W1 : Addr → Prop} {O O' O1 O2 : OA} {ρ ρ' ρ1 ρ2 : Env} {σ σ' σ1 σ2 : L2.St} {pk own : List Nat} {D : Addr}
/-- a dict that is nobody's slot's is written -/
theorem EnvRep.updWD {vs ws : List (Key × V)} (h : EnvRep K TB H W O σ ρ) (w : W D) (hd : H D = some (.dK vs)) : EnvRep K TB (upd H D (.dK ws)) W O σ ρ where
  len := h.len
  sl := fun i => by
    have na : NG W O D := .inl w
    have q := h.sl i
    revert q
    cases es : slotAt ρ i with
    | no => exact id
    | sh t1 => rintro ⟨q0, v, ev, r1⟩; exact ⟨q0, v, ev, r1.upd na .upd hd (.inr (.inl ⟨_, rfl⟩))⟩
    | fz t1 => rintro ⟨q0, v, ev, r1⟩; exact ⟨q0, v, ev, r1.upd na .upd hd (.inr (.inl ⟨_, rfl⟩))⟩
    | ow b1 t1 =>
      rintro ⟨a1, q0, ev, r1⟩
      have nb : a1 ≠ D := fun z => h.out i a1 q0 (by rw [z]; exact w)
      refine ⟨a1, q0, ev, ?_⟩
      rcases r1 with ⟨ts, vs, e, hh, rr⟩ | ⟨ts, vs, e, hh, rr⟩ | ⟨ts, vs, e, hh, rr⟩
      · exact .inl ⟨ts, vs, e, by rw [upd_ne nb]; exact hh, rr.upd na .upd hd (.inr (.inl ⟨_, rfl⟩))⟩
      · exact .inr (.inl ⟨ts, vs, e, by rw [upd_ne nb]; exact hh, rr.upd na .upd hd (.inr (.inl ⟨_, rfl⟩))⟩)
      · exact .inr (.inr ⟨ts, vs, e, by rw [upd_ne nb]; exact hh, rr⟩)
    | le t1 =>
      rintro ⟨a1, q0, ev, r1⟩
      have nb : a1 ≠ D := fun z => h.out i a1 q0 (by rw [z]; exact w)
      refine ⟨a1, q0, ev, ?_⟩
      rcases r1 with ⟨ts, vs, e, hh, rr⟩ | ⟨ts, vs, e, hh, rr⟩ | ⟨ts, vs, e, hh, rr⟩
      · exact .inl ⟨ts, vs, e, by rw [upd_ne nb]; exact hh, rr.upd na .upd hd (.inr (.inl ⟨_, rfl⟩))⟩
      · exact .inr (.inl ⟨ts, vs, e, by rw [upd_ne nb]; exact hh, rr.upd na .upd hd (.inr (.inl ⟨_, rfl⟩))⟩)
      · exact .inr (.inr ⟨ts, vs, e, by rw [upd_ne nb]; exact hh, rr⟩)
  inj := h.inj
  out := h.out
  wt := fun b q => by
    by_cases c : b = D
    · subst c; exact ⟨_, upd_same, fun _ z => by cases z⟩
    · rw [upd_ne c]; exact h.wt b q
  tab := fun p hp => tabs_upd hd (fun _ z => by cases z) (fun _ z => by unfold LamX.CodeO at z; cases z) _ _ (h.tab p hp)
theorem CP.updK {vs ws : List (Key × V)} (hd : H D = some (.dK vs)) : CP own D H O ρ (upd H D (.dK ws)) O ρ where
  ix := fun _ _ e => e
  keep := fun b o e _ d _ => by rw [upd_ne d]; exact e
  per := fun b o e z => by
    by_cases c : b = D
    · subst c; exact ⟨_, upd_same, fun _ z => by cases z⟩
    · rw [upd_ne c]; exact ⟨o, e, z⟩
  ows := fun _ _ t e => ⟨t, e⟩
  ne := fun _ _ e => e
  ms := fun _ _ e => e
  le := fun _ _ _ e => ⟨e, rfl⟩
theorem CP.tupsK (p : CP own D H O ρ H1 O1 ρ1) (en : EnvRep K TB H W O σ ρ) (hD : ∀ o, H D = some o → ∃ vs, o = .dK vs) : ∀ b o, H b = some o → (∃ xs, o = .tup xs ∨ ∃ ob, o = .frz ob (.tup xs)) → H1 b = some o := fun b o eb h => by
  have nd : b ≠ D := fun c => by
    subst c
    obtain ⟨vs, rfl⟩ := hD o eb
    obtain ⟨xs, h | ⟨ob, h⟩⟩ := h <;> cases h
  refine p.keep b o eb (fun q => ?_) nd (fun ps z => ?_)
  · rcases ow_mut en q eb with ⟨vs, rfl⟩ | ⟨ks, rfl⟩ | ⟨ks, rfl⟩
    · obtain ⟨xs, h | ⟨ob, h⟩⟩ := h <;> cases h
    · obtain ⟨xs, h | ⟨ob, h⟩⟩ := h <;> cases h
    · obtain ⟨xs, h | ⟨ob, h⟩⟩ := h <;> cases h
  · subst z
    obtain ⟨xs, h | ⟨ob, h⟩⟩ := h <;> cases h
/-- the state at a turn: acc stands in the new list -/
structure RchD (K : PySem.W.Frag) (TB : List (Addr × Str)) (own : List Nat) (D : Addr) (H1 : Hp) (O1 : OA) (ρ1 : Env) (W : Addr → Prop) (σ : L2.St) (accT : List (T × T)) (H' : Hp) (O' : OA) (ρ' : Env) : Prop where
  cp : CP own D H1 O1 ρ1 H' O' ρ'
  env : EnvRep K TB H' W O' σ ρ'
  acc : ∃ acc, H' D = some (.dK acc) ∧ RepKV K H' (NG W O') accT acc ∧ (acc.map (·.1)).Nodup
theorem dcompL_step {step : T → List (T × T) → Env → R (List (T × T))} {x : T} {r : List T} {d l : List (T × T)} (h : dcompL step (x :: r) d ρ = .ok l ρ2) : ∃ d1 ρ1, step x d ρ = .ok d1 ρ1 ∧ dcompL step r d1 ρ1 = .ok l ρ2 :=
  bind_ok (show ((step x d ρ).bind fun d ρ => dcompL step r d ρ) = .ok l ρ2 from h)
/-- the loop of one clause -/
theorem comp_loopD {items : List T} {J : It} {step : T → List (T × T) → Env → R (List (T × T))} {l accT0 : List (T × T)} {B : Addr → Prop} {H0 : Hp} {W0 : Addr → Prop} {O0 : OA} (hJ : ItOk K H0 B (NG W0 O0) items J)
    (hB : ∀ b o, H0 b = some o → ¬ B b → ¬ Ow O1 ρ1 b ∧ b ≠ D) (hN : ∀ b, NG W O1 b → NG W0 O0 b ∨ nn H0 b) (hDl : ∀ o, H1 D = some o → ∃ vs, o = .dK vs) (h01 : ∀ b o, H0 b = some o → b ≠ D → H1 b = some o) (hD0 : ∀ o, H0 D = some o → ∃ vs, o = .dK vs)
    (en1 : EnvRep K TB H1 W O1 σ ρ1) (hrun : dcompL step items accT0 ρ1 = .ok l ρ2)
    (h0 : ∃ acc, H1 D = some (.dK acc) ∧ RepKV K H1 (NG W O1) accT0 acc ∧ (acc.map (·.1)).Nodup)
    {END : Hp → Prop} (hend : ∀ H' O', RchD K TB own D H1 O1 ρ1 W σ l H' O' ρ2 → END H')
    {TURN : V → Hp → (Hp → Prop) → Prop}
    (hturn : ∀ accT H' O' ρ' x t lt ρ3 Nx, RchD K TB own D H1 O1 ρ1 W σ accT H' O' ρ' → Rep K H' (NG W O') t x → step t accT ρ' = .ok lt ρ3 → (∀ H4 O4, RchD K TB own D H1 O1 ρ1 W σ lt H4 O4 ρ3 → Nx H4) → TURN x H' Nx) :
    ∃ Wv : Nat → Nat → Hp → Prop, (∃ m, Wv 0 m H1) ∧ ∀ i m H, Wv i m H → (J.stop i H ∧ END H) ∨ (J.go i H ∧ ∃ Nx : Hp → Prop, (∀ H', Nx H' → ∃ m', m' < m ∧ Wv (i + 1) m' H') ∧ ∀ x H', J.yld i H x H' → TURN x H' Nx) := by
  refine ⟨fun i m H' => ∃ accT O' ρ', RchD K TB own D H1 O1 ρ1 W σ accT H' O' ρ' ∧ dcompL step (items.drop i) accT ρ' = .ok l ρ2 ∧ i ≤ items.length ∧ m = items.length - i,
    ⟨items.length, accT0, O1, ρ1, ⟨.of Post.refl, en1, h0⟩, hrun, Nat.zero_le _, rfl⟩, fun i m H' ⟨accT, O', ρ', rch, run, hi, hm⟩ => ?_⟩
  obtain ⟨stp, gos⟩ := hJ H' (NG W O') (fun b o e n z => by
      obtain ⟨n1, n2⟩ := hB b o e n
      exact rch.cp.keep b o (h01 b o e n2) n1 n2 z) (fun b o e h => by
      have nd : b ≠ D := fun c => by
        subst c
        obtain ⟨vs, rfl⟩ := hD0 o e
        obtain ⟨xs, h | ⟨ob, h⟩⟩ := h <;> cases h
      exact rch.cp.tupsK en1 hDl b o (h01 b o e nd) h) (fun b q => by
      rcases q with q | ⟨j, q⟩
      · exact hN b (.inl q)
      · exact hN b (.inr ⟨j, rch.cp.ix j b q⟩))
  by_cases hlt : i < items.length
  · obtain ⟨x, hx⟩ : ∃ x, items[i]? = some x := ⟨items[i], List.getElem?_eq_getElem hlt⟩
    obtain ⟨go, yl⟩ := gos i x hx
    have ed : items.drop i = x :: items.drop (i + 1) := by
      have e0 := List.drop_eq_getElem_cons hlt
      rw [List.getElem?_eq_getElem hlt] at hx
      cases hx
      exact e0
    rw [ed] at run
    obtain ⟨l1, ρ3, e1, e2⟩ := dcompL_step run
    refine .inr ⟨go, fun H4 => ∃ O4, RchD K TB own D H1 O1 ρ1 W σ l1 H4 O4 ρ3, fun H4 ⟨O4, r4⟩ => ⟨items.length - (i + 1), by omega, l1, O4, ρ3, r4, e2, hlt, rfl⟩, fun v H'' y => ?_⟩
    obtain ⟨gr, rv⟩ := yl v H'' y
    refine hturn accT H'' O' ρ' v x l1 ρ3 _ ⟨rch.cp.trans (.of (Post.grow gr)), rch.env.grow gr, ?_⟩ rv e1 fun H4 O4 r4 => ⟨O4, r4⟩
    obtain ⟨acc, a1, a2, a3⟩ := rch.acc
    exact ⟨acc, gr _ _ a1, a2.grow gr, a3⟩
  · have hi' : i = items.length := by omega
    subst hi'
    rw [List.drop_length] at run
    cases run
    exact .inl ⟨stp _ (Nat.le_refl _), hend H' O' rch⟩
/-- behind a comprehension: the slots as they were, the list is new -/
theorem comp_endD {l : List (T × T)} (en : EnvRep K TB H W O σ ρ) (p1 : Post H (wipeO own O) (PB.wipe own ρ) H1 O1 ρ1) (en1 : EnvRep K TB H1 W1 O1 σ ρ1) (hw1 : ∀ b, wipeW own O W b → W1 b) (hD : H1 D = none)
    (rch : RchD K TB own D (upd H1 D (.dK [])) (wipeO own O1) (lend pk (PB.wipe own ρ1)) (plus W1 D) (L2.wipe σ own) l H' O' ρ2) :
    Post H O ρ H' (endO own O O') (unwipe ρ own (unlend (PB.wipe own ρ1) pk ρ2)) ∧ VPost K TB (nw H O ρ) H' W (endO own O O') σ (unwipe ρ own (unlend (PB.wipe own ρ1) pk ρ2)) ⟨.dct l, .f⟩ (.ref D) := by
  have hDH : nn H D := fun o e z => by
    obtain ⟨o', e', _⟩ := p1.per D o e z
    rw [hD] at e'; cases e'
  have ens : EnvRep K TB (upd H1 D (.dK [])) (plus W1 D) (wipeO own O1) (L2.wipe σ own) (lend pk (PB.wipe own ρ1)) :=
    ((en1.wipe (own := own) (L2.wipe_length σ own) (fun i c => L2.wipe_out c)).lend pk).new (Grow.upd hD) hD upd_same (fun _ z => by cases z)
  have hDl : ∀ o, upd H1 D (.dK []) D = some o → ∃ vs, o = .dK vs := fun o e => by rw [upd_same] at e; cases e; exact ⟨_, rfl⟩
  have oOf : ∀ i a, i ∉ own → O' i = some a → O i = some a := fun i a c e => by
    have e2 := (wipeO_some (rch.cp.ix i a e)).2
    exact (wipeO_some (p1.own i a e2)).2
  have owB : ∀ b, Ow (wipeO own O1) (lend pk (PB.wipe own ρ1)) b → Ow (wipeO own O) (PB.wipe own ρ) b := fun b h => p1.ow (ow_lw h).2
  have kp : ∀ b o, H b = some o → ¬ Ow (wipeO own O) (PB.wipe own ρ) b → nt o → H' b = some o := fun b o e n z => by
    have nd : b ≠ D := fun c => by subst c; exact hDH o e z
    exact rch.cp.keep b o (by rw [upd_ne nd]; exact p1.keep b o e n z) (fun q => n (owB b q)) nd z
  have per : ∀ b o, H b = some o → nt o → ∃ o', H' b = some o' ∧ nt o' := fun b o e z => by
    have nd : b ≠ D := fun c => by subst c; exact hDH o e z
    obtain ⟨o1, e1, z1⟩ := p1.per b o e z
    exact rch.cp.per b o1 (by rw [upd_ne nd]; exact e1) z1
  have kt : ∀ b o, H b = some o → (∃ xs, o = .tup xs ∨ ∃ ob, o = .frz ob (.tup xs)) → H' b = some o := fun b o e h => by
    have nd : b ≠ D := fun c => by
      subst c
      refine hDH o e fun ps z => ?_
      subst z
      obtain ⟨xs, h | ⟨ob, h⟩⟩ := h <;> cases h
    exact rch.cp.tupsK ens hDl b o (by rw [upd_ne nd]; exact p1.tups en.wipeW b o e h) h
  have lenA : (PB.wipe own ρ1).length = ρ2.length := by
    rw [wipe_len, en1.len, rch.env.len, L2.wipe_length]
  have lenB : ρ.length = (unlend (PB.wipe own ρ1) pk ρ2).length := by
    rw [unlend_length, ← lenA, wipe_len, en.len, en1.len]
  have slotIn : ∀ i, i ∈ own → slotAt (unwipe ρ own (unlend (PB.wipe own ρ1) pk ρ2)) i = slotAt ρ i := fun i c => by rw [unwipe_at _ _ _ lenB, if_pos c]
  have slotOut : ∀ i, i ∉ own → slotAt (unwipe ρ own (unlend (PB.wipe own ρ1) pk ρ2)) i = slotAt ρ2 i ∨ ∃ b t, slotAt ρ1 i = .ow b t ∧ slotAt ρ2 i = .le t ∧ O' i = O1 i ∧ slotAt (unwipe ρ own (unlend (PB.wipe own ρ1) pk ρ2)) i = .ow b t := fun i c => by
    rw [unwipe_at _ _ _ lenB, if_neg c]
    rcases unlend_at (PB.wipe own ρ1) pk ρ2 lenA i with ⟨h, _⟩ | ⟨hm, b, t, e1, e2⟩
    · exact .inl h
    · rw [wipe_at, if_neg c] at e1
      obtain ⟨z1, z2⟩ := rch.cp.le i t c (by rw [lend_at, if_pos hm, wipe_at, if_neg c, e1]; rfl)
      rw [wipeO_out c] at z2
      exact .inr ⟨b, t, e1, z1, z2, e2⟩
  have wslot : ∀ i, i ∉ own → slotAt (PB.wipe own ρ) i = slotAt ρ i := fun i c => by rw [wipe_at, if_neg c]
  have lslot : ∀ i, i ∉ own → slotAt (lend pk (PB.wipe own ρ1)) i = slotAt ρ1 i ∨ ∃ b t, slotAt ρ1 i = .ow b t ∧ slotAt (lend pk (PB.wipe own ρ1)) i = .le t := fun i c => by
    rcases lend_slot pk (PB.wipe own ρ1) i with h | ⟨_, b, t, h1, h2⟩
    · rw [wipe_at, if_neg c] at h; exact .inl h
    · rw [wipe_at, if_neg c] at h1; exact .inr ⟨b, t, h1, h2⟩
  have sub : ∀ b, NG (plus W D) (endO own O O') b → NG (plus W1 D) O' b := fun b q => by
    rcases q with (q | q) | ⟨i, q⟩
    · exact .inl (.inl (hw1 b (.inl q)))
    · exact .inl (.inr q)
    · by_cases c : i ∈ own
      · rw [endO_in c] at q; exact .inl (.inl (hw1 b (.inr ⟨i, c, q⟩)))
      · rw [endO_out c] at q; exact .inr ⟨i, q⟩
  have back : ∀ b, NG (plus W D) (endO own O O') b → NG W O b ∨ nn H b := fun b q => by
    rcases q with (q | q) | ⟨i, q⟩
    · exact .inl (.inl q)
    · subst q; exact .inr hDH
    · by_cases c : i ∈ own
      · rw [endO_in c] at q; exact .inl (.inr ⟨i, q⟩)
      · rw [endO_out c] at q; exact .inl (.inr ⟨i, oOf i b c q⟩)
  have owNG : ∀ b, Ow (wipeO own O) (PB.wipe own ρ) b → NG W O b := fun b q => ow_ng (ow_wipe q)
  have oEnd : ∀ i a, endO own O O' i = some a → O i = some a := fun i a e => by
    by_cases c : i ∈ own
    · rw [endO_in c] at e; exact e
    · rw [endO_out c] at e; exact oOf i a c e
  have post : Post H O ρ H' (endO own O O') (unwipe ρ own (unlend (PB.wipe own ρ1) pk ρ2)) := by
    refine ⟨oEnd, fun b o e n z => kp b o e (fun q => n (ow_wipe q)) z, per, fun i e => ?_, fun i bb t e => ?_, fun i e => ?_, fun i t e => ?_⟩
    · by_cases c : i ∈ own
      · rw [slotIn i c]; exact e
      · rcases slotOut i c with h | ⟨b, t, _, _, _, h⟩
        · rw [h]
          refine rch.cp.ne i c ?_
          have e1 := p1.ne i (by rw [wslot i c]; exact e)
          rcases lslot i c with h | ⟨b, t, _, h⟩
          · rw [h]; exact e1
          · rw [h]; nofun
        · rw [h]; nofun
    · by_cases c : i ∈ own
      · rw [slotIn i c] at e; exact ⟨t, e⟩
      · have go : ∀ {t0}, slotAt ρ1 i = .ow bb t0 → ∃ t1, slotAt ρ i = .ow bb t1 := fun h => by
          obtain ⟨t1, h1⟩ := p1.ows i bb _ h
          rw [wslot i c] at h1
          exact ⟨t1, h1⟩
        rcases slotOut i c with h | ⟨b, u, h1, _, _, h⟩
        · rw [h] at e
          obtain ⟨t0, e0⟩ := rch.cp.ows i bb t e
          rcases lslot i c with h | ⟨b, u, h1, h2⟩
          · rw [h] at e0; exact go e0
          · rw [h2] at e0; cases e0
        · rw [h] at e; cases e; exact go h1
    · by_cases c : i ∈ own
      · rw [slotIn i c]; exact e
      · have e1 := p1.ms i (by rw [wslot i c]; exact e)
        rcases slotOut i c with h | ⟨b, u, h1, _, _, h⟩
        · rw [h]
          refine rch.cp.ms i c ?_
          rcases lslot i c with h | ⟨b, t, _, h⟩
          · rw [h]; exact e1
          · rw [h]; rfl
        · rw [h]; rw [h1] at e1; exact e1
    · by_cases c : i ∈ own
      · rw [slotIn i c, endO_in c]; exact ⟨e, rfl⟩
      · obtain ⟨e1, e2⟩ := p1.le i t (by rw [wslot i c]; exact e)
        rw [wipeO_out c] at e2
        have e3 : slotAt (lend pk (PB.wipe own ρ1)) i = .le t := by
          rcases lslot i c with h | ⟨b, u, h1, h2⟩
          · rw [h]; exact e1
          · rw [e1] at h1; cases h1
        obtain ⟨e4, e5⟩ := rch.cp.le i t c e3
        rw [wipeO_out c] at e5
        rw [endO_out c]
        rcases slotOut i c with h | ⟨b, u, h1, _⟩
        · rw [h]; exact ⟨e4, e5.trans e2⟩
        · rw [e1] at h1; cases h1
  refine ⟨post, D, rfl, .inl hDH, fun q => ?_, ?_, ?_⟩
  · rcases q with q | ⟨i, q⟩
    · obtain ⟨o, ho, z⟩ := en.wt D q
      exact hDH o ho z
    · obtain ⟨o, ho, z⟩ := en.othN (oEnd i D q)
      exact hDH o ho z
  · obtain ⟨acc, a1, a2, _⟩ := rch.acc
    exact .inr (.inl ⟨l, acc, rfl, a1, a2.weak sub⟩)
  · refine ⟨?_, fun i => ?_, fun i j a e1 e2 => en.inj i j a (oEnd i a e1) (oEnd j a e2), fun i a e w => ?_, fun a w => ?_, rch.env.tab⟩
    · rw [unwipe_len, unlend_length, ← lenA, wipe_len, en1.len]
    · by_cases c : i ∈ own
      · rw [slotIn i c, endO_in c]
        have q := en.sl i
        have kr : ∀ {t v}, Rep K H (NG W O) t v → Rep K H' (NG (plus W D) (endO own O O')) t v := fun r => r.keep (fun b o e n z => kp b o e (fun q => n (owNG b q)) z) kt back
        have ko : ∀ {t a}, O i = some a → OwnRep K H (NG W O) t a → OwnRep K H' (NG (plus W D) (endO own O O')) t a := fun {t a} ea r => by
          have na : ¬ Ow (wipeO own O) (PB.wipe own ρ) a := fun ⟨j, bb, u, z1, z2⟩ => by
            obtain ⟨cj, z1⟩ := wipeO_some z1
            have := en.inj i j a ea z1
            subst this
            exact cj c
          rcases r with ⟨ts, vs, e, h, r⟩ | ⟨ts, vs, e, h, r⟩ | ⟨ts, vs, e, h, r⟩
          · exact .inl ⟨ts, vs, e, kp _ _ h na (fun _ z => by cases z), r.keep (fun b o e n z => kp b o e (fun q => n (owNG b q)) z) kt back⟩
          · exact .inr (.inl ⟨ts, vs, e, kp _ _ h na (fun _ z => by cases z), r.keep (fun b o e n z => kp b o e (fun q => n (owNG b q)) z) kt back⟩)
          · exact .inr (.inr ⟨ts, vs, e, kp _ _ h na (fun _ z => by cases z), r⟩)
        revert q
        cases slotAt ρ i with
        | no => exact id
        | sh t => rintro ⟨q0, v, ev, r⟩; exact ⟨q0, v, ev, kr r⟩
        | fz t => rintro ⟨q0, v, ev, r⟩; exact ⟨q0, v, ev, kr r⟩
        | ow b t => rintro ⟨a, q0, ev, r⟩; exact ⟨a, q0, ev, ko q0 r⟩
        | le t => rintro ⟨a, q0, ev, r⟩; exact ⟨a, q0, ev, ko q0 r⟩
      · have q := rch.env.sl i
        rw [L2.wipe_out c] at q
        rw [endO_out c]
        rcases slotOut i c with h | ⟨b, u, h1, h2, _, h⟩
        · rw [h]; exact q.weak sub
        · rw [h2] at q
          rw [h]
          exact SlRep.weak (s := .ow b u) sub q
    · rcases w with w | w
      · exact en.out i a (oEnd i a e) w
      · subst w
        obtain ⟨o, ho, z⟩ := en.othN (oEnd i a e)
        exact hDH o ho z
    · rcases w with w | w
      · obtain ⟨o, e, z⟩ := en.wt a w
        exact per a o e z
      · subst w
        obtain ⟨acc, a1, _, _⟩ := rch.acc
        exact ⟨_, a1, fun _ z => by cases z⟩
/-- at the end of a turn: nothing more, or one item more -/
theorem rch_skipD {accT : List (T × T)} {σs : L2.St} {Hs Ha Hb : Hp} {Os Oa Ob : OA} {ρs ρa ρb : Env} (rch : RchD K TB own D Hs Os ρs W σs accT H' O' ρ') (wD : W D) (pa : Post H' O' ρ' Hb Ob ρb) (enb : EnvRep K TB Hb W Ob σ2 ρb) (hl : σs.length = σ2.length) (hs : ∀ i, i ∉ own → σs[i]? = σ2[i]?) :
    RchD K TB own D Hs Os ρs W σs accT Hb (wipeO own Ob) (PB.wipe own ρb) := by
  refine ⟨(rch.cp.trans (.of pa)).trans .wiped, enb.wipe hl hs, ?_⟩
  obtain ⟨acc, a1, a2, a3⟩ := rch.acc
  refine ⟨acc, pa.keep _ _ a1 (fun q => ?_) (fun _ z => by cases z), (a2.post pa rch.env).weak ng_wipeO, a3⟩
  obtain ⟨i, _, _, z, _⟩ := q
  exact rch.env.out i D z wD
theorem putK_nodup {kk : Key} {vx : V} {k0 : List (Key × V)} (nd : (k0.map (·.1)).Nodup) : ((putK k0 kk vx).map (·.1)).Nodup := by
  unfold putK
  split
  · rename_i hh
    have : (k0.map fun kv => if kv.1 = kk then (kv.1, vx) else kv).map (·.1) = k0.map (·.1) := by
      rw [List.map_map]
      refine List.map_congr_left fun p _ => ?_
      show (if p.1 = kk then (p.1, vx) else p).1 = p.1
      split <;> rfl
    rw [this]; exact nd
  · rename_i hh
    rw [List.map_append, List.nodup_append]
    refine ⟨nd, by simp, ?_⟩
    intro y hy z hz
    simp at hz
    subst hz
    intro e
    subst e
    refine hh ?_
    rw [List.any_eq_true]
    obtain ⟨p, hp, e⟩ := List.mem_map.mp hy
    exact ⟨p, hp, decide_eq_true e⟩
theorem dcomp1_go {Q : VK} {r : R (List (T × T))} (g : Go TB C Wx (kdV K TB σ) H W O ρ (dcomp1 ρ own r) Q) : ∃ l ρe, r = .ok l ρe ∧ Go TB C Wx (kdV K TB σ) H W O ρ (.ok ⟨.dct l, .f⟩ (unwipe ρ own ρe)) Q := by
  cases r with
  | bad => exact g.elim
  | exc c x => exact g.elim
  | ok l ρe =>
    have g : Go TB C Wx (kdV K TB σ) H W O ρ (cond (sized l) (.ok ⟨.dct l, .f⟩ (unwipe ρ own ρe)) .bad) Q := g
    cases e : sized l with
    | false => rw [e] at g; exact g.elim
    | true => rw [e] at g; exact ⟨l, ρe, rfl, g⟩
theorem sem_dcomp {it : EI} {rt : EA} {rc : Env → R Bool} {rk re : EV} {Q : VK} (g : tE K TB C Wx (dcompK own (dgenK own pk rt it rc (kvK rk re))) σ H Q) :
    tDc (tI K TB C Wx pk it) (tC K TB own rt) (tT K TB C wF rc) (tE K TB C wF rk) (tE K TB C wF re) own σ H Q := by
  obtain ⟨W, O, ρ, en, g⟩ := g
  obtain ⟨l, ρe, erun, g⟩ := dcomp1_go g
  have erun : ((it (PB.wipe own ρ)).bind fun items ρ => dgenL pk (dgenStep own rt rc (kvK rk re)) items [] (PB.wipe own ρ)) = .ok l ρe := erun
  obtain ⟨items, ρ1, eit, erun⟩ := bind_ok erun
  obtain ⟨ρ2, erun2, eun⟩ := mapEnv_ok erun
  subst eun
  refine ⟨wipeW own O W, wipeO own O, PB.wipe own ρ, en.wipeW, ?_⟩
  rw [eit]
  intro J H1 O1 p1 ⟨W1, hw1, en1, iok, _⟩ D hD
  have gr : Grow H1 (upd H1 D (.dK [])) := Grow.upd hD
  have ens : EnvRep K TB (upd H1 D (.dK [])) (plus W1 D) (wipeO own O1) (L2.wipe σ own) (lend pk (PB.wipe own ρ1)) :=
    ((en1.wipe (own := own) (L2.wipe_length σ own) (fun i c => L2.wipe_out c)).lend pk).new gr hD upd_same (fun _ z => by cases z)
  have nd : ∀ {b o}, H1 b = some o → b ≠ D := fun e c => by subst c; rw [hD] at e; cases e
  refine comp_loopD (own := own) (D := D) (accT0 := []) (σ := L2.wipe σ own) (W := plus W1 D) (END := fun H' => Q (.ref D) H') (TURN := fun x H' Nx => tC K TB own rt x (L2.wipe σ own) H' fun σ2 H2 => L2.wipe σ2 own = L2.wipe σ own ∧ tT K TB C wF rc σ2 H2 fun b H3 =>
      if b = true then tE K TB C wF rk σ2 H3 fun y H4 => tE K TB C wF re σ2 H4 fun z H5 => ∃ kvs k, y = kV k ∧ H5 D = some (.dK kvs) ∧ kvs.length < sizeLine ∧ Nx (upd H5 D (.dK (putK kvs k z))) else Nx H3)
    iok (fun b o e n => ⟨fun q => n (.inl (ow_lw q).1), nd e⟩) (fun b q => ?_) (fun o e => by rw [upd_same] at e; cases e; exact ⟨_, rfl⟩) (fun b o e d => by rw [upd_ne d]; exact e) (fun o e => by rw [hD] at e; cases e) ens erun2 ⟨[], upd_same, .nil, .nil⟩ (fun H' O' rch => ?_) (fun accT H' O' ρ' x t lt ρ3 Nx rch rt' est hNx => ?_)
  · rcases q with (q | q) | ⟨i, q⟩
    · exact .inl (.inl q)
    · subst q; exact .inr (nn.of hD)
    · exact .inl (.inr ⟨i, (wipeO_some q).2⟩)
  · obtain ⟨z1, z2⟩ := comp_endD en p1 en1 hw1 hD rch
    exact g _ H' _ z1 z2
  · have est : (((rt ⟨t, .s⟩ ρ').bind fun _ ρ => (rc ρ).bind fun b ρ => cond b (kvK rk re ρ accT) (.ok accT ρ)).mapEnv (PB.wipe own)) = .ok lt ρ3 := est
    obtain ⟨ρ3', est2, e3⟩ := mapEnv_ok est
    subst e3
    obtain ⟨u, ρa, etg, est3⟩ := bind_ok est2
    obtain ⟨b, ρb, ec, est4⟩ := bind_ok est3
    refine ⟨plus W1 D, O', ρ', t, rch.env, rt', ρa, etg, fun σ2 Oa pa hl hs ena => ⟨?_, plus W1 D, Oa, ρa, ena, ?_⟩⟩
    · exact lwipe_eq (by rw [hl, L2.wipe_length]) fun i c => by rw [hs i c, L2.wipe_out c]
    · rw [ec]
      intro b' H3 O3 p3 ⟨eb, en3⟩
      subst eb
      have hl' : (L2.wipe σ own).length = σ2.length := hl.symm
      have hs' : ∀ i, i ∉ own → (L2.wipe σ own)[i]? = σ2[i]? := fun i c => (hs i c).symm
      cases b' with
      | false =>
        cases est4
        rw [if_neg (by decide)]
        exact hNx H3 _ (rch_skipD (Ha := H3) (Oa := Oa) (ρa := ρa) rch (.inr rfl) (pa.trans p3) en3 hl' hs')
      | true =>
        rw [if_pos rfl]
        have est4 : ((rk ρb).bind fun x ρ => (re ρ).bind fun y ρ => match giv [x, y] with | some _ => cond (kindOk x.t accT && sized accT) (.ok (dPut x.t y.t accT) ρ) .bad | none => .bad) = .ok lt ρ3' := est4
        obtain ⟨xk, ρc, ek, est5⟩ := bind_ok est4
        obtain ⟨xe, ρd, ee, est6⟩ := bind_ok est5
        refine ⟨plus W1 D, O3, ρb, en3, ?_⟩
        rw [ek]
        intro y H4 O4 p4 vp4
        have vp4 : VPost K TB (nw H3 O3 ρb) H4 (plus W1 D) O4 σ2 ρc xk y := vp4
        refine ⟨plus W1 D, O4, ρc, vp4.env, ?_⟩
        rw [ee]
        intro z H5 O5 p5 vp5
        have vp5 : VPost K TB (nw H4 O4 ρc) H5 (plus W1 D) O5 σ2 ρd xe z := vp5
        cases eg : giv [xk, xe] with
        | none => rw [eg] at est6; cases est6
        | some lt' =>
          rw [eg] at est6
          have est6 : cond (kindOk xk.t accT && sized accT) (R.ok (dPut xk.t xe.t accT) ρd) .bad = .ok lt ρ3' := est6
          cases ec2 : (kindOk xk.t accT && sized accT) with
          | false => rw [ec2] at est6; cases est6
          | true =>
            rw [ec2] at est6
            obtain ⟨c1, c2⟩ := and_t ec2
            cases est6
            obtain ⟨tk, r0, eg1, eg2, rfl⟩ := giv_cons eg
            obtain ⟨te, r1, eg3, eg4, rfl⟩ := giv_cons eg2
            have tk_eq : ∀ {x : TK} {t : T}, giv1 x = some t → x.t = t := fun {x t} h => by
              obtain ⟨u, k⟩ := x
              cases k <;> cases h <;> rfl
            have rk' := (vp4.giv1 Post.refl eg1).post p5 vp4.env
            have re' := vp5.giv1 Post.refl eg3
            rw [tk_eq eg1] at c1 hNx
            rw [tk_eq eg3] at hNx
            obtain ⟨acc, a1, a2, a3⟩ := rch.acc
            have pp := ((pa.trans p3).trans p4).trans p5
            have wD : plus W1 D D := .inr rfl
            have b1 : H5 D = some (.dK acc) := pp.keep _ _ a1 (fun q => by
              obtain ⟨i, _, _, z, _⟩ := q
              exact rch.env.out i D z wD) (fun _ z => by cases z)
            have b2 := a2.post pp rch.env
            obtain ⟨kk, hk⟩ := kindOk_key a2 c1
            have ey := keyOf_kV hk (RRep.ofRep rk')
            refine ⟨acc, kk, ey, b1, by rw [← a2.len]; exact sized_le c2, hNx _ (wipeO own O5) ⟨((rch.cp.trans (.of pp)).trans (.updK b1)).trans .wiped, (vp5.env.updWD wD b1).wipe hl' hs', putK acc kk z, upd_same, ?_, putK_nodup a3⟩⟩
            exact ((b2.put hk re' a3).upd (.inl wD) .upd b1 (.inr (.inl ⟨_, rfl⟩))).weak ng_wipeO
end
end PB
end

section
set_option Elab.async false
set_option linter.all false
set_option maxRecDepth 100000
set_option maxHeartbeats 4000000
/-! Sound20: calls: what goes in, what comes back. -/
namespace PB
open PySem PySem.Spec PyProof.Rows L2
section
variable {K : PySem.W.Frag} {TB : List (Addr × Str)} {C : CT} {Wx : WX}
variable {H H' H1 H2 : Hp} {W W' W1 : Addr → Prop} {O O' O1 O2 : OA} {ρ ρ' ρ1 ρ2 : Env} {σ σ' σ1 σ2 : L2.St}
/-- from a call's entry to its end: os: the lent parameters -/
structure CPost (H : Hp) (O : OA) (sl : Env) (H' : Hp) (O' : OA) (os : Env) : Prop where
  own : ∀ i a, O' i = some a → O i = some a
  keep : ∀ b o, H b = some o → ¬ Ow O sl b → nt o → H' b = some o
  per : ∀ b o, H b = some o → nt o → ∃ o', H' b = some o' ∧ nt o'
/-- what a call makes true -/
def RGo (K : PySem.W.Frag) (TB : List (Addr × Str)) (C : CT) (vs : List V) (H : Hp) (W : Addr → Prop) (O : OA) (sl : Env) (r : Rc) (Q : VK) (E : XK) : Prop := match r with
  | .ret t k os => ∀ v H' O', CPost H O sl H' O' os → VPost K TB (nw H O sl) H' W O' (vs.map some) os ⟨t, k⟩ v → Q v H'
  | .exc c x => ∀ cls d H', XPost K TB C H W O sl c x cls d H' → E cls d H'
  | .bad => False
/-- a function's promise -/
def spF (K : PySem.W.Frag) (TB : List (Addr × Str)) (C : CT) (f : Env → Rc) : Sp := fun vs H Q E => ∃ W O sl, EnvRep K TB H W O (vs.map some) sl ∧ RGo K TB C vs H W O sl (f sl) Q E
theorem VL.at {N : Addr → Prop} {l : List TK} {vs : List V} {fr : List Addr} (h : VL K H N σ ρ l vs fr) : ∀ {j : Nat} {x : TK}, l[j]? = some x → ∃ v, vs[j]? = some v ∧ (x.k = .s → Rep K H N x.t v) ∧ (x.k = .f → ∃ a, a ∈ fr ∧ v = .ref a ∧ OwnRep K H N x.t a) ∧ ∀ i, x.k = .p i → σ[i]? = some (some v) ∧ slotAt ρ i ≠ .no := by
  induction h with
  | nil => intro j x e; simp at e
  | @sh t v l vs fr r _ ih =>
    intro j x e
    cases j with
    | zero => simp at e; subst e; exact ⟨v, rfl, fun _ => r, fun z => (by cases z), fun _ z => by cases z⟩
    | succ j => exact ih (by simpa using e)
  | @fr t a l vs fr r _ ih =>
    intro j x e
    cases j with
    | zero => simp at e; subst e; exact ⟨_, rfl, fun z => (by cases z), fun _ => ⟨a, List.mem_cons_self, rfl, r⟩, fun _ z => by cases z⟩
    | succ j =>
      obtain ⟨v, e1, e2, e3, e4⟩ := ih (j := j) (x := x) (by simpa using e)
      exact ⟨v, by simpa using e1, e2, fun z => by
        obtain ⟨b, m, q⟩ := e3 z
        exact ⟨b, List.mem_cons_of_mem _ m, q⟩, e4⟩
  | @pk t i v l vs fr a b _ ih =>
    intro j x e
    cases j with
    | zero => simp at e; subst e; exact ⟨v, rfl, fun z => (by cases z), fun z => (by cases z), fun _ z => by cases z; exact ⟨a, b⟩⟩
    | succ j => exact ih (by simpa using e)
theorem VL.apart {N : Addr → Prop} {l : List TK} {vs : List V} {fr : List Addr} (h : VL K H N σ ρ l vs fr) : fr.Nodup → ∀ {j j' : Nat} {x x' : TK} {v : V}, l[j]? = some x → l[j']? = some x' → x.k = .f → x'.k = .f → vs[j]? = some v → vs[j']? = some v → j = j' := by
  induction h with
  | nil => intro _ j j' x x' v e; simp at e
  | @sh t v l vs fr r _ ih =>
    intro nd j j' x x' w e e' k k' z z'
    cases j with
    | zero => simp at e; subst e; cases k
    | succ j =>
      cases j' with
      | zero => simp at e'; subst e'; cases k'
      | succ j' => exact congrArg (· + 1) (ih nd (j := j) (j' := j') (by simpa using e) (by simpa using e') k k' (by simpa using z) (by simpa using z'))
  | @pk t i v l vs fr a b _ ih =>
    intro nd j j' x x' w e e' k k' z z'
    cases j with
    | zero => simp at e; subst e; cases k
    | succ j =>
      cases j' with
      | zero => simp at e'; subst e'; cases k'
      | succ j' => exact congrArg (· + 1) (ih nd (j := j) (j' := j') (by simpa using e) (by simpa using e') k k' (by simpa using z) (by simpa using z'))
  | @fr t a l vs fr r h' ih =>
    intro nd j j' x x' w e e' k k' z z'
    obtain ⟨n1, n2⟩ := List.nodup_cons.mp nd
    have no : ∀ {j : Nat} {x : TK}, l[j]? = some x → x.k = .f → vs[j]? = some (.ref a) → False := fun e k z => by
      obtain ⟨v, e1, _, e3, _⟩ := h'.at e
      obtain ⟨b, m, e4, _⟩ := e3 k
      rw [e1] at z
      cases z
      cases e4
      exact n1 m
    cases j with
    | zero =>
      simp at z
      subst z
      cases j' with
      | zero => rfl
      | succ j' => exact (no (by simpa using e') k' (by simpa using z')).elim
    | succ j =>
      cases j' with
      | zero =>
        simp at z'
        subst z'
        exact (no (by simpa using e) k (by simpa using z)).elim
      | succ j' => exact congrArg (· + 1) (ih n2 (j := j) (j' := j') (by simpa using e) (by simpa using e') k k' (by simpa using z) (by simpa using z'))
theorem slotAt_get : ∀ (ρ : Env) (i : Nat), slotAt ρ i = (ρ[i]?).getD .no
  | [], i => by simp [slotAt]
  | s :: r, 0 => by simp [slotAt]
  | s :: r, i + 1 => by
    show slotAt r i = _
    rw [slotAt_get r i]; simp
/-- how a parameter's slot comes of an argument -/
def argOf (ρ : Env) (x : TK) : Option Sl := match x.k with
  | .s => some (.sh x.t)
  | .f => some (.ow false x.t)
  | .p i => (match slotAt ρ i with
    | .ow _ t => some (.ow true t)
    | .sh t => some (.sh t)
    | .fz t => some (.sh t)
    | _ => none)
theorem argS_spec : ∀ (l : List TK) (seen : List Nat) (sl : Env), argS ρ l seen = some sl →
    sl.length = l.length ∧ (∀ (j : Nat) (x : TK), l[j]? = some x → ∃ s, argOf ρ x = some s ∧ sl[j]? = some s) ∧ (∀ (j : Nat) (x : TK) (i : Nat) (b : Bool) (t : T), l[j]? = some x → x.k = .p i → slotAt ρ i = .ow b t → i ∉ seen) ∧
      ∀ (j j' : Nat) (x x' : TK) (i : Nat) (b : Bool) (t : T), l[j]? = some x → l[j']? = some x' → x.k = .p i → x'.k = .p i → slotAt ρ i = .ow b t → j = j'
  | [], seen, sl, h => by
    cases h
    exact ⟨rfl, fun j x e => by simp at e, fun j x i b t e => by simp at e, fun j j' x x' i b t e => by simp at e⟩
  | ⟨u, k⟩ :: l, seen, sl, h => by
    have step : ∀ {s : Sl} {seen' : List Nat} {r : Env}, argOf ρ ⟨u, k⟩ = some s → argS ρ l seen' = some r → (∀ i, i ∉ seen' → i ∉ seen) → sl = s :: r → (∀ i b t, k = .p i → slotAt ρ i = .ow b t → i ∉ seen ∧ i ∈ seen') →
        sl.length = (⟨u, k⟩ :: l).length ∧ (∀ (j : Nat) (x : TK), (⟨u, k⟩ :: l)[j]? = some x → ∃ s, argOf ρ x = some s ∧ sl[j]? = some s) ∧ (∀ (j : Nat) (x : TK) (i : Nat) (b : Bool) (t : T), (⟨u, k⟩ :: l)[j]? = some x → x.k = .p i → slotAt ρ i = .ow b t → i ∉ seen) ∧
          ∀ (j j' : Nat) (x x' : TK) (i : Nat) (b : Bool) (t : T), (⟨u, k⟩ :: l)[j]? = some x → (⟨u, k⟩ :: l)[j']? = some x' → x.k = .p i → x'.k = .p i → slotAt ρ i = .ow b t → j = j' := by
      intro s seen' r ea er hs esl hk
      obtain ⟨a1, a2, a3, a4⟩ := argS_spec l seen' r er
      subst esl
      refine ⟨by simp [a1], fun j x e => ?_, fun j x i b t e ek es => ?_, fun j j' x x' i b t e e' ek ek' es => ?_⟩
      · cases j with
        | zero => simp at e; subst e; exact ⟨s, ea, rfl⟩
        | succ j => obtain ⟨s', z1, z2⟩ := a2 j x (by simpa using e); exact ⟨s', z1, by simpa using z2⟩
      · cases j with
        | zero => simp at e; subst e; exact (hk i b t ek es).1
        | succ j => exact hs i (a3 j x i b t (by simpa using e) ek es)
      · cases j with
        | zero =>
          simp at e
          subst e
          cases j' with
          | zero => rfl
          | succ j' => exact absurd (hk i b t ek es).2 (a3 j' x' i b t (by simpa using e') ek' es)
        | succ j =>
          cases j' with
          | zero =>
            simp at e'
            subst e'
            exact absurd (hk i b t ek' es).2 (a3 j x i b t (by simpa using e) ek es)
          | succ j' => rw [a4 j j' x x' i b t (by simpa using e) (by simpa using e') ek ek' es]
    cases k with
    | s =>
      obtain ⟨r, e1, e2⟩ := optBind_some (show optBind (argS ρ l seen) (fun l => some (.sh u :: l)) = some sl from h)
      cases e2
      exact step rfl e1 (fun _ q => q) rfl (fun i b t z => by cases z)
    | f =>
      obtain ⟨r, e1, e2⟩ := optBind_some (show optBind (argS ρ l seen) (fun l => some (.ow false u :: l)) = some sl from h)
      cases e2
      exact step rfl e1 (fun _ q => q) rfl (fun i b t z => by cases z)
    | p i =>
      obtain ⟨s, e0, h⟩ := optBind_some (show optBind (arg1 i seen (slotAt ρ i)) (fun s => optBind (argS ρ l (i :: seen)) fun l => some (s :: l)) = some sl from h)
      obtain ⟨r, e1, e2⟩ := optBind_some h
      cases e2
      have hs : ∀ j, j ∉ i :: seen → j ∉ seen := fun j q => fun m => q (List.mem_cons_of_mem _ m)
      cases es : slotAt ρ i with
      | ow b t =>
        rw [es] at e0
        have e0 : cond (memN i seen) none (some (.ow true t)) = some s := e0
        cases em : memN i seen with
        | true => rw [em] at e0; cases e0
        | false =>
          rw [em] at e0
          cases e0
          refine step ?_ e1 hs rfl (fun i' b t z _ => ?_)
          · show (match slotAt ρ i with | .ow _ t => some (.ow true t) | .sh t => some (.sh t) | .fz t => some (.sh t) | _ => none) = some (Sl.ow true t)
            rw [es]
          · cases z
            exact ⟨fun m => (by rw [memN_mem.mpr m] at em; cases em), List.mem_cons_self⟩
      | sh t =>
        rw [es] at e0
        cases e0
        refine step ?_ e1 hs rfl (fun i' b t z q => ?_)
        · show (match slotAt ρ i with | .ow _ t => some (.ow true t) | .sh t => some (.sh t) | .fz t => some (.sh t) | _ => none) = some (Sl.sh t)
          rw [es]
        · cases z; rw [es] at q; cases q
      | fz t =>
        rw [es] at e0
        cases e0
        refine step ?_ e1 hs rfl (fun i' b t z q => ?_)
        · show (match slotAt ρ i with | .ow _ t => some (.ow true t) | .sh t => some (.sh t) | .fz t => some (.sh t) | _ => none) = some (Sl.sh t)
          rw [es]
        · cases z; rw [es] at q; cases q
      | le t => rw [es] at e0; cases e0
      | no => rw [es] at e0; cases e0
/-- what came back into the slot -/
def backTo1 (b : Bool) : Sl → Option Sl
  | .ow true t => some (.ow b t)
  | .fz t => some (cond b (.fz t) (.sh t))
  | _ => none
theorem back1_spec {i : Nat} {o : Sl} {ρ' : Env} (h : back1 i ρ o (slotAt ρ i) = some ρ') : (∃ b t s, slotAt ρ i = .ow b t ∧ backTo1 b o = some s ∧ ρ' = put ρ i s) ∨ ((∀ b t, slotAt ρ i ≠ .ow b t) ∧ ρ' = ρ) := by
  cases es : slotAt ρ i with
  | ow b t =>
    rw [es] at h
    cases o with
    | ow c u =>
      cases c with
      | true => cases h; exact .inl ⟨b, t, _, rfl, rfl, rfl⟩
      | false => cases h
    | fz u => cases h; exact .inl ⟨b, t, _, rfl, rfl, rfl⟩
    | _ => cases h
  | sh t =>
    rw [es] at h
    refine .inr ⟨fun _ _ => nofun, ?_⟩
    cases o with
    | ow c u => cases c <;> (cases h; rfl)
    | _ => cases h; rfl
  | fz t =>
    rw [es] at h
    refine .inr ⟨fun _ _ => nofun, ?_⟩
    cases o with
    | ow c u => cases c <;> (cases h; rfl)
    | _ => cases h; rfl
  | no =>
    rw [es] at h
    cases o with
    | ow c u => cases c <;> cases h
    | _ => cases h
  | le t =>
    rw [es] at h
    cases o with
    | ow c u => cases c <;> cases h
    | _ => cases h
theorem backS_spec : ∀ (l : List TK) (os : Env) (ρ ρ' : Env), (∀ (j j' : Nat) (x x' : TK) (i : Nat) (b : Bool) (t : T), l[j]? = some x → l[j']? = some x' → x.k = .p i → x'.k = .p i → slotAt ρ i = .ow b t → j = j') → backS l os ρ = some ρ' →
    ρ'.length = ρ.length ∧ ∀ i, (slotAt ρ' i = slotAt ρ i ∧ ∀ (j : Nat) (x : TK) (b : Bool) (t : T), l[j]? = some x → x.k = .p i → slotAt ρ i ≠ .ow b t) ∨ ∃ (j : Nat) (x : TK) (o : Sl) (b : Bool) (t : T) (s : Sl), l[j]? = some x ∧ x.k = .p i ∧ os[j]? = some o ∧ slotAt ρ i = .ow b t ∧ backTo1 b o = some s ∧ slotAt ρ' i = s
  | [], os, ρ, ρ', _, h => by
    cases h
    exact ⟨rfl, fun i => .inl ⟨rfl, fun j x b t e => by simp at e⟩⟩
  | ⟨u, k⟩ :: l, [], ρ, ρ', _, h => by cases k <;> cases h
  | ⟨u, k⟩ :: l, o :: os, ρ, ρ', hd, h => by
    have skip : backS l os ρ = some ρ' → (∀ i, k ≠ .p i) → ρ'.length = ρ.length ∧ ∀ i, (slotAt ρ' i = slotAt ρ i ∧ ∀ (j : Nat) (x : TK) (b : Bool) (t : T), (⟨u, k⟩ :: l)[j]? = some x → x.k = .p i → slotAt ρ i ≠ .ow b t) ∨ ∃ (j : Nat) (x : TK) (o' : Sl) (b : Bool) (t : T) (s : Sl), (⟨u, k⟩ :: l)[j]? = some x ∧ x.k = .p i ∧ (o :: os)[j]? = some o' ∧ slotAt ρ i = .ow b t ∧ backTo1 b o' = some s ∧ slotAt ρ' i = s := by
      intro h hk
      obtain ⟨a1, a2⟩ := backS_spec l os ρ ρ' (fun j j' x x' i b t e e' ek ek' es => by
        have := hd (j + 1) (j' + 1) x x' i b t (by simpa using e) (by simpa using e') ek ek' es
        omega) h
      refine ⟨a1, fun i => ?_⟩
      rcases a2 i with ⟨z1, z2⟩ | ⟨j, x, o', b, t, s, e1, e2, e3, e4, e5, e6⟩
      · refine .inl ⟨z1, fun j x b t e ek => ?_⟩
        cases j with
        | zero => simp at e; subst e; exact absurd ek (hk i)
        | succ j => exact z2 j x b t (by simpa using e) ek
      · exact .inr ⟨j + 1, x, o', b, t, s, by simpa using e1, e2, by simpa using e3, e4, e5, e6⟩
    cases k with
    | s => exact skip h (fun _ => nofun)
    | f => exact skip h (fun _ => nofun)
    | p i0 =>
      obtain ⟨ρ0, e0, hb⟩ := optBind_some (show optBind (back1 i0 ρ o (slotAt ρ i0)) (fun ρ => backS l os ρ) = some ρ' from h)
      rcases back1_spec e0 with ⟨b0, t0, s0, q1, q2, rfl⟩ | ⟨q1, rfl⟩
      · have hi : i0 < ρ.length := slot_lt (by rw [q1]; nofun)
        have none' : ∀ (j : Nat) (x : TK), l[j]? = some x → x.k ≠ .p i0 := fun j x e ek => by
          have := hd 0 (j + 1) ⟨u, .p i0⟩ x i0 b0 t0 rfl (by simpa using e) rfl ek q1
          omega
        obtain ⟨a1, a2⟩ := backS_spec l os (put ρ i0 s0) ρ' (fun j j' x x' i b t e e' ek ek' es => by
          by_cases c : i0 = i
          · subst c; exact absurd ek (none' j x e)
          · rw [slot_put_ne ρ _ c] at es
            have := hd (j + 1) (j' + 1) x x' i b t (by simpa using e) (by simpa using e') ek ek' es
            omega) hb
        refine ⟨a1.trans (put_length ρ i0 s0), fun i => ?_⟩
        by_cases c : i0 = i
        · subst c
          refine .inr ⟨0, ⟨u, .p i0⟩, o, b0, t0, s0, rfl, rfl, rfl, q1, q2, ?_⟩
          rcases a2 i0 with ⟨z1, _⟩ | ⟨j, x, o', b, t, s, e1, e2, _⟩
          · rw [z1, slot_put ρ _ hi]
          · exact absurd e2 (none' j x e1)
        · rcases a2 i with ⟨z1, z2⟩ | ⟨j, x, o', b, t, s, e1, e2, e3, e4, e5, e6⟩
          · rw [slot_put_ne ρ _ c] at z1 z2
            refine .inl ⟨z1, fun j x b t e ek => ?_⟩
            cases j with
            | zero => simp at e; subst e; cases ek; exact absurd rfl c
            | succ j => exact z2 j x b t (by simpa using e) ek
          · rw [slot_put_ne ρ _ c] at e4
            exact .inr ⟨j + 1, x, o', b, t, s, by simpa using e1, e2, by simpa using e3, e4, e5, e6⟩
      · obtain ⟨a1, a2⟩ := backS_spec l os ρ0 ρ' (fun j j' x x' i b t e e' ek ek' es => by
          have := hd (j + 1) (j' + 1) x x' i b t (by simpa using e) (by simpa using e') ek ek' es
          omega) hb
        refine ⟨a1, fun i => ?_⟩
        rcases a2 i with ⟨z1, z2⟩ | ⟨j, x, o', b, t, s, e1, e2, e3, e4, e5, e6⟩
        · refine .inl ⟨z1, fun j x b t e ek => ?_⟩
          cases j with
          | zero => simp at e; subst e; cases ek; exact q1 b t
          | succ j => exact z2 j x b t (by simpa using e) ek
        · exact .inr ⟨j + 1, x, o', b, t, s, by simpa using e1, e2, by simpa using e3, e4, e5, e6⟩
end
end PB
end

section
set_option Elab.async false
set_option linter.all false
set_option maxRecDepth 100000
set_option maxHeartbeats 4000000
/-! Sound21: calls. -/
namespace PB
open PySem PySem.Spec PyProof.Rows L2
section
variable {K : PySem.W.Frag} {TB : List (Addr × Str)} {C : CT} {Wx : WX}
variable {H H' H0 H1 H2 : Hp} {W W' W1 : Addr → Prop} {O O' O0 O1 O2 : OA} {ρ ρ' ρ0 ρ1 ρ2 sl os : Env} {σ σ' σ1 σ2 : L2.St} {l : List TK} {vs : List V} {fr : List Addr}
def adr : Option V → Option Addr
  | some (.ref a) => some a
  | _ => none
def owO (O : OA) (i : Nat) : Sl → Option Addr
  | .ow _ _ => O i
  | _ => none
def argO1 (ρ : Env) (O : OA) (v : Option V) : PB.K → Option Addr
  | .s => none
  | .f => adr v
  | .p i => owO O i (slotAt ρ i)
def argO (ρ : Env) (O : OA) (l : List TK) (vs : List V) : OA := fun j => match l[j]? with
  | some x => argO1 ρ O vs[j]? x.k
  | none => none
def callW (W : Addr → Prop) (fr : List Addr) (O Oc : OA) : Addr → Prop := fun a => NG (uni W fr) O a ∧ ∀ j, Oc j ≠ some a
theorem argO_some {Nw : Addr → Prop} (vp : VPs K TB Nw H W O σ ρ l vs fr) {j : Nat} {a : Addr} (e : argO ρ O l vs j = some a) :
    ∃ x, l[j]? = some x ∧ vs[j]? = some (.ref a) ∧ ((x.k = .f ∧ a ∈ fr) ∨ ∃ i b t, x.k = .p i ∧ slotAt ρ i = .ow b t ∧ O i = some a ∧ σ[i]? = some (some (.ref a))) := by
  unfold argO at e
  cases el : l[j]? with
  | none => rw [el] at e; cases e
  | some x =>
    rw [el] at e
    obtain ⟨v, ev, h1, h2, h3⟩ := vp.vl.at el
    obtain ⟨t, k⟩ := x
    cases k with
    | s => cases e
    | f =>
      obtain ⟨b, m, rfl, r⟩ := h2 rfl
      have e : adr vs[j]? = some a := e
      rw [ev] at e
      cases e
      exact ⟨_, rfl, ev, .inl ⟨rfl, m⟩⟩
    | p i =>
      have e : owO O i (slotAt ρ i) = some a := e
      obtain ⟨z1, z2⟩ := h3 i rfl
      cases es : slotAt ρ i with
      | ow b u =>
        rw [es] at e
        obtain ⟨a', q1, q2, _⟩ := vp.env.ow es
        have e : O i = some a := e
        rw [e] at q1
        cases q1
        rw [z1] at q2
        cases q2
        exact ⟨_, rfl, ev, .inr ⟨i, b, u, rfl, es, e, z1⟩⟩
      | _ => rw [es] at e; cases e
theorem argO_ng {Nw : Addr → Prop} (vp : VPs K TB Nw H W O σ ρ l vs fr) {j : Nat} {a : Addr} (e : argO ρ O l vs j = some a) : NG (uni W fr) O a := by
  obtain ⟨x, _, _, ⟨_, m⟩ | ⟨i, _, _, _, _, z, _⟩⟩ := argO_some vp e
  · exact .inl (.inr m)
  · exact .inr ⟨i, z⟩
theorem callW_ng {Nw : Addr → Prop} (vp : VPs K TB Nw H W O σ ρ l vs fr) : ∀ b, NG (callW W fr O (argO ρ O l vs)) (argO ρ O l vs) b → NG (uni W fr) O b := fun b q => by
  rcases q with q | ⟨j, q⟩
  · exact q.1
  · exact argO_ng vp q
theorem call_in {Nw : Addr → Prop} (vp : VPs K TB Nw H W O σ ρ l vs fr) (ha : argS ρ l [] = some sl) : EnvRep K TB H (callW W fr O (argO ρ O l vs)) (argO ρ O l vs) (vs.map some) sl := by
  obtain ⟨a1, a2, _, a4⟩ := argS_spec l [] sl ha
  have hsub := callW_ng vp
  refine ⟨by rw [a1, List.length_map, vp.vl.ng], fun j => ?_, fun j j' a e e' => ?_, fun j a e w => w.2 j e, fun a w => vp.env.ngtN w.1, vp.env.tab⟩
  · cases el : l[j]? with
    | none =>
      have hl : l.length ≤ j := List.getElem?_eq_none_iff.mp el
      have : slotAt sl j = .no := by
        cases es : slotAt sl j with
        | no => rfl
        | _ => exact absurd (slot_lt (ρ := sl) (i := j) (by rw [es]; nofun)) (by rw [a1]; exact Nat.not_lt.mpr hl)
      rw [this]
      show argO ρ O l vs j = none
      unfold argO
      rw [el]
    | some x =>
      obtain ⟨s, es, el2⟩ := a2 j x el
      have esl : slotAt sl j = s := by rw [slotAt_get, el2]; rfl
      obtain ⟨v, ev, h1, h2, h3⟩ := vp.vl.at el
      have evs : (vs.map some)[j]? = some (some v) := by rw [List.getElem?_map, ev]; rfl
      have eO : argO ρ O l vs j = argO1 ρ O vs[j]? x.k := by unfold argO; rw [el]
      rw [esl, evs, eO]
      obtain ⟨t, k⟩ := x
      cases k with
      | s =>
        cases es
        exact ⟨rfl, v, rfl, (h1 rfl).weak hsub⟩
      | f =>
        cases es
        obtain ⟨a, m, rfl, r⟩ := h2 rfl
        refine ⟨a, ?_, rfl, r.weak hsub⟩
        show adr vs[j]? = some a
        rw [ev]; rfl
      | p i =>
        obtain ⟨z1, z2⟩ := h3 i rfl
        have q := vp.env.sl i
        have es : (match slotAt ρ i with | .ow _ t => some (.ow true t) | .sh t => some (.sh t) | .fz t => some (.sh t) | _ => none) = some s := es
        show SlRep K H _ s (some (some v)) (owO O i (slotAt ρ i))
        cases e0 : slotAt ρ i with
        | ow b u =>
          rw [e0] at es q
          cases es
          obtain ⟨a, q1, q2, q3⟩ := q
          rw [z1] at q2
          cases q2
          exact ⟨a, q1, rfl, q3.weak hsub⟩
        | sh u =>
          rw [e0] at es q
          cases es
          obtain ⟨_, w, q2, q3⟩ := q
          rw [z1] at q2
          cases q2
          exact ⟨rfl, _, rfl, q3.weak hsub⟩
        | fz u =>
          rw [e0] at es q
          cases es
          obtain ⟨_, w, q2, q3⟩ := q
          rw [z1] at q2
          cases q2
          exact ⟨rfl, _, rfl, q3.weak hsub⟩
        | no => rw [e0] at es; cases es
        | le u => rw [e0] at es; cases es
  · obtain ⟨x, b1, b2, b3⟩ := argO_some vp e
    obtain ⟨x', c1, c2, c3⟩ := argO_some vp e'
    rcases b3 with ⟨k, m⟩ | ⟨i, bb, t, k, s, o, _⟩
    · rcases c3 with ⟨k', m'⟩ | ⟨i', bb', t', k', s', o', _⟩
      · exact vp.vl.apart vp.nd b1 c1 k k' b2 c2
      · exact absurd (.inr ⟨i', o'⟩) (vp.ng a m)
    · rcases c3 with ⟨k', m'⟩ | ⟨i', bb', t', k', s', o', _⟩
      · exact absurd (.inr ⟨i, o⟩) (vp.ng a m')
      · have : i = i' := vp.env.inj i i' a o o'
        subst this
        exact a4 j j' x x' i bb t b1 c1 k k' s
theorem ow_arg {Nw : Addr → Prop} (vp : VPs K TB Nw H W O σ ρ l vs fr) {b : Addr} (h : Ow (argO ρ O l vs) sl b) : b ∈ fr ∨ Ow O ρ b := by
  obtain ⟨j, _, _, e, _⟩ := h
  obtain ⟨x, _, _, ⟨_, m⟩ | ⟨i, bb, t, _, s, o, _⟩⟩ := argO_some vp e
  · exact .inl m
  · exact .inr ⟨i, bb, t, o, s⟩
/-- what is barred for the callee -/
theorem W_callW {Nw : Addr → Prop} (vp : VPs K TB Nw H W O σ ρ l vs fr) : ∀ b, W b → callW W fr O (argO ρ O l vs) b := fun b w => by
  refine ⟨.inl (.inl w), fun j e => ?_⟩
  obtain ⟨x, _, _, ⟨_, m⟩ | ⟨i, _, _, _, _, o, _⟩⟩ := argO_some vp e
  · exact vp.ng b m (.inl w)
  · exact vp.env0.out i b o w
def retO (O : OA) (ρ' : Env) : OA := fun i => match slotAt ρ' i with
  | .ow _ _ => O i
  | .le _ => O i
  | _ => none
theorem retO_some {i : Nat} {a : Addr} (h : retO O ρ' i = some a) : O i = some a := by
  unfold retO at h
  split at h <;> first | exact h | cases h
theorem call_out {t : T} {k : PB.K} {v : V} {O' : OA} (p0 : Post H0 O0 ρ0 H O ρ) (vp : VPs K TB (nw H0 O0 ρ0) H W O σ ρ l vs fr) (ha : argS ρ l [] = some sl) (cp : CPost H (argO ρ O l vs) sl H' O' os)
    (rv : VPost K TB (nw H (argO ρ O l vs) sl) H' (callW W fr O (argO ρ O l vs)) O' (vs.map some) os ⟨t, k⟩ v) (hb : backS l os ρ = some ρ') (hk : noP k = true) :
    Post H0 O0 ρ0 H' (retO O ρ') ρ' ∧ VPost K TB (nw H0 O0 ρ0) H' W (retO O ρ') σ ρ' ⟨t, k⟩ v := by
  obtain ⟨a1, a2, _, a4⟩ := argS_spec l [] sl ha
  obtain ⟨b1, b2⟩ := backS_spec l os ρ ρ' a4 hb
  have cin := call_in vp ha
  have frn : ∀ b ∈ fr, nw H0 O0 ρ0 b := vp.new
  have keep0 : ∀ b o, H0 b = some o → ¬ Ow O0 ρ0 b → nt o → H' b = some o := fun b o e n z => by
    refine cp.keep b o (p0.keep b o e n z) (fun q => ?_) z
    rcases ow_arg vp q with q | q
    · rcases frn b q with q | q
      · exact q o e z
      · exact n q
    · exact n (p0.ow q)
  have slots : ∀ i, (slotAt ρ' i = slotAt ρ i ∧ ∀ (j : Nat) (x : TK) (b : Bool) (t : T), l[j]? = some x → x.k = .p i → slotAt ρ i ≠ .ow b t) ∨ ∃ (j : Nat) (x : TK) (o : Sl) (b : Bool) (t : T) (s : Sl), l[j]? = some x ∧ x.k = .p i ∧ os[j]? = some o ∧ slotAt ρ i = .ow b t ∧ backTo1 b o = some s ∧ slotAt ρ' i = s := b2
  have bt : ∀ {b : Bool} {o s : Sl}, backTo1 b o = some s → (∃ u, o = .ow true u ∧ s = .ow b u) ∨ ∃ u, o = .fz u ∧ s = cond b (.fz u) (.sh u) := fun {b o s} h => by
    cases o with
    | ow c u => cases c with
      | true => cases h; exact .inl ⟨u, rfl, rfl⟩
      | false => cases h
    | fz u => cases h; exact .inr ⟨u, rfl, rfl⟩
    | _ => cases h
  -- a slot that was not lent keeps its thing away from the callee
  have away : ∀ i a, O i = some a → (∀ (j : Nat) (x : TK) (b : Bool) (t : T), l[j]? = some x → x.k = .p i → slotAt ρ i ≠ .ow b t) → ∀ j, argO ρ O l vs j ≠ some a := fun i a ea hn j e => by
    obtain ⟨x, c1, _, ⟨_, m⟩ | ⟨i', bb, u, k', s', o', _⟩⟩ := argO_some vp e
    · exact vp.ng a m (.inr ⟨i, ea⟩)
    · have : i' = i := vp.env.inj i' i a o' ea
      subst this
      exact hn j x bb u c1 k' s'
  have post : Post H0 O0 ρ0 H' (retO O ρ') ρ' := by
    refine ⟨fun i a e => p0.own i a (retO_some e), keep0, fun b o e z => ?_, fun i e => ?_, fun i bb u e => ?_, fun i e => ?_, fun i u e => ?_⟩
    · obtain ⟨o1, e1, z1⟩ := p0.per b o e z
      exact cp.per b o1 e1 z1
    · have e1 := p0.ne i e
      rcases slots i with ⟨h, _⟩ | ⟨j, x, o, b, u, s, _, _, _, _, h, h2⟩
      · rw [h]; exact e1
      · rw [h2]
        rcases bt h with ⟨w, _, rfl⟩ | ⟨w, _, rfl⟩
        · nofun
        · cases b <;> nofun
    · rcases slots i with ⟨h, _⟩ | ⟨j, x, o, b, w, s, _, _, _, h0, h, h2⟩
      · rw [h] at e; exact p0.ows i bb u e
      · rw [h2] at e
        rcases bt h with ⟨w', _, rfl⟩ | ⟨w', _, rfl⟩
        · cases e; exact p0.ows i _ _ h0
        · cases b <;> cases e
    · have e1 := p0.ms i e
      rcases slots i with ⟨h, _⟩ | ⟨j, x, o, b, w, s, _, _, _, h0, h, h2⟩
      · rw [h]; exact e1
      · rw [h0] at e1
        cases b with
        | false => cases e1
        | true =>
          rw [h2]
          rcases bt h with ⟨w', _, rfl⟩ | ⟨w', _, rfl⟩ <;> rfl
    · obtain ⟨e1, e2⟩ := p0.le i u e
      rcases slots i with ⟨h, _⟩ | ⟨j, x, o, b, w, s, _, _, _, h0, h, h2⟩
      · refine ⟨by rw [h]; exact e1, ?_⟩
        unfold retO
        rw [h, e1]
        exact e2
      · rw [e1] at h0; cases h0
  -- barred for the caller: barred for the callee
  have sub : ∀ b, NG W (retO O ρ') b → ∀ {Wz : Addr → Prop}, (∀ b, callW W fr O (argO ρ O l vs) b → Wz b) → EnvRep K TB H' Wz O' (vs.map some) os → NG Wz O' b := fun b q Wz hz enz => by
    rcases q with q | ⟨i, q⟩
    · exact .inl (hz b (W_callW vp b q))
    · have ei := retO_some q
      rcases slots i with ⟨h, hn⟩ | ⟨j, x, o, bb, w, s, c1, c2, c3, c4, c5, c6⟩
      · exact .inl (hz b ⟨.inr ⟨i, ei⟩, away i b ei hn⟩)
      · rcases bt c5 with ⟨w', rfl, rfl⟩ | ⟨w', rfl, rfl⟩
        · have qs := enz.sl j
          rw [slotAt_get, c3] at qs
          obtain ⟨a', z1, z2, _⟩ := qs
          obtain ⟨v', ev, _, _, h3⟩ := vp.vl.at c1
          obtain ⟨y1, y2⟩ := h3 i c2
          rw [List.getElem?_map, ev] at z2
          have z2 : some v' = some (V.ref a') := Option.some.inj z2
          cases z2
          obtain ⟨a2', y3, y4, _⟩ := vp.env.ow c4
          rw [y1] at y4
          cases y4
          rw [ei] at y3
          cases y3
          exact .inr ⟨j, z1⟩
        · unfold retO at q
          rw [c6] at q
          cases bb <;> cases q
  have kpN : ∀ b o, H b = some o → ¬ NG (uni W fr) O b → nt o → H' b = some o := fun b o e n z => cp.keep b o e (fun ⟨j, _, _, q, _⟩ => n (argO_ng vp q)) z
  have ktN : ∀ b o, H b = some o → (∃ xs, o = .tup xs ∨ ∃ ob, o = .frz ob (.tup xs)) → H' b = some o := fun b o e h => cp.keep b o e (fun q => by
    rcases ow_mut cin q e with ⟨vs, rfl⟩ | ⟨ks, rfl⟩ | ⟨ks, rfl⟩
    · obtain ⟨xs, h | ⟨ob, h⟩⟩ := h <;> cases h
    · obtain ⟨xs, h | ⟨ob, h⟩⟩ := h <;> cases h
    · obtain ⟨xs, h | ⟨ob, h⟩⟩ := h <;> cases h) (fun ps z => by
    subst z
    obtain ⟨xs, h | ⟨ob, h⟩⟩ := h <;> cases h)
  have per1 : ∀ b o, H b = some o → nt o → ∃ o', H' b = some o' ∧ nt o' := cp.per
  -- the caller's state, for W and a little more
  have mk : ∀ {Wz Wt : Addr → Prop}, (∀ b, callW W fr O (argO ρ O l vs) b → Wz b) → EnvRep K TB H' Wz O' (vs.map some) os → (∀ b, NG Wt (retO O ρ') b → NG Wz O' b) → (∀ b, Wt b → W b ∨ nw H (argO ρ O l vs) sl b) → (∀ a, Wt a → ∃ o, H' a = some o ∧ nt o) → (∀ i a, retO O ρ' i = some a → ¬ Wt a) →
      EnvRep K TB H' Wt (retO O ρ') σ ρ' := by
    intro Wz Wt hz enz hs hw wt out
    have hn : ∀ b, NG Wt (retO O ρ') b → NG (uni W fr) O b ∨ nn H b := fun b q => by
      rcases q with q | ⟨i, q⟩
      · rcases hw b q with q | q | ⟨j, _, _, q, _⟩
        · exact .inl (.inl (.inl q))
        · exact .inr q
        · exact .inl (argO_ng vp q)
      · exact .inl (.inr ⟨i, retO_some q⟩)
    refine ⟨by rw [b1, vp.env.len], fun i => ?_, fun i j a e1 e2 => vp.env.inj i j a (retO_some e1) (retO_some e2), out, wt, enz.tab⟩
    rcases slots i with ⟨h, hno⟩ | ⟨j, x, o, bb, w, s, c1, c2, c3, c4, c5, c6⟩
    · have q := vp.env.sl i
      have eO : retO O ρ' i = (match slotAt ρ i with | .ow _ _ => O i | .le _ => O i | _ => none) := by unfold retO; rw [h]
      rw [h, eO]
      have kr : ∀ {t v}, Rep K H (NG (uni W fr) O) t v → Rep K H' (NG Wt (retO O ρ')) t v := fun r => r.keep kpN ktN hn
      have ko : ∀ {t a}, O i = some a → OwnRep K H (NG (uni W fr) O) t a → OwnRep K H' (NG Wt (retO O ρ')) t a := fun {t a} ea r => by
        have na : ¬ Ow (argO ρ O l vs) sl a := fun ⟨j, _, _, q, _⟩ => away i a ea hno j q
        rcases r with ⟨ts, ws, e, h, r⟩ | ⟨ts, ws, e, h, r⟩ | ⟨ts, ws, e, h, r⟩
        · exact .inl ⟨ts, ws, e, cp.keep _ _ h na (fun _ z => by cases z), r.keep kpN ktN hn⟩
        · exact .inr (.inl ⟨ts, ws, e, cp.keep _ _ h na (fun _ z => by cases z), r.keep kpN ktN hn⟩)
        · exact .inr (.inr ⟨ts, ws, e, cp.keep _ _ h na (fun _ z => by cases z), r⟩)
      revert q
      cases es : slotAt ρ i with
      | no => intro q; rfl
      | sh t => rintro ⟨q0, v, ev, r⟩; exact ⟨rfl, v, ev, kr r⟩
      | fz t => rintro ⟨q0, v, ev, r⟩; exact ⟨rfl, v, ev, kr r⟩
      | ow b t => rintro ⟨a, q0, ev, r⟩; exact ⟨a, q0, ev, ko q0 r⟩
      | le t => rintro ⟨a, q0, ev, r⟩; exact ⟨a, q0, ev, ko q0 r⟩
    · obtain ⟨v', ev, _, _, h3⟩ := vp.vl.at c1
      obtain ⟨y1, y2⟩ := h3 i c2
      have qs := enz.sl j
      rw [slotAt_get, c3, List.getElem?_map, ev] at qs
      rw [c6]
      rcases bt c5 with ⟨w', rfl, rfl⟩ | ⟨w', rfl, rfl⟩
      · obtain ⟨a', z1, z2, r⟩ := qs
        cases z2
        obtain ⟨a2', y3, y4, _⟩ := vp.env.ow c4
        rw [y1] at y4
        cases y4
        refine ⟨a', ?_, y1, r.weak hs⟩
        unfold retO
        rw [c6]
        exact y3
      · obtain ⟨_, w2, z2, r⟩ := qs
        cases z2
        cases bb with
        | true => exact ⟨by unfold retO; rw [c6]; rfl, _, y1, r.weak hs⟩
        | false => exact ⟨by unfold retO; rw [c6]; rfl, _, y1, r.weak hs⟩
  have outW : ∀ i a, retO O ρ' i = some a → ¬ W a := fun i a e w => vp.env0.out i a (retO_some e) w
  have wtW : ∀ a, W a → ∃ o, H' a = some o ∧ nt o := fun a w => by
    obtain ⟨o, e, z⟩ := vp.env0.wt a w
    exact per1 a o e z
  refine ⟨post, ?_⟩
  cases k with
  | s =>
    obtain ⟨r, enz⟩ := rv
    have hs : ∀ b, NG W (retO O ρ') b → NG (callW W fr O (argO ρ O l vs)) O' b := fun b q => sub b q (fun _ q => q) enz
    exact ⟨r.weak hs, mk (fun _ q => q) enz hs (fun _ q => .inl q) wtW outW⟩
  | f =>
    obtain ⟨a, rfl, hnw, ng, r, enz⟩ := rv
    have enz0 : EnvRep K TB H' (callW W fr O (argO ρ O l vs)) O' (vs.map some) os := enz.drop fun _ q => .inl q
    have hs0 : ∀ b, NG W (retO O ρ') b → NG (callW W fr O (argO ρ O l vs)) O' b := fun b q => sub b q (fun _ q => q) enz0
    have hs : ∀ b, NG (plus W a) (retO O ρ') b → NG (plus (callW W fr O (argO ρ O l vs)) a) O' b := fun b q => by
      rcases q with (q | q) | q
      · exact ng_mono (fun _ q => .inl q) b (hs0 b (.inl q))
      · subst q; exact .inl (.inr rfl)
      · exact ng_mono (fun _ q => .inl q) b (hs0 b (.inr q))
    have na : nw H0 O0 ρ0 a := by
      rcases hnw with h | h
      · exact p0.nw (.inl h)
      · rcases ow_arg vp h with h | h
        · exact frn a h
        · exact p0.nw (.inr h)
    refine ⟨a, rfl, na, fun q => ng (hs0 a q), r.weak hs, mk (Wz := plus (callW W fr O (argO ρ O l vs)) a) (fun _ q => .inl q) enz hs (fun b q => ?_) (fun b q => ?_) (fun i b e w => ?_)⟩
    · rcases q with q | q
      · exact .inl q
      · subst q; exact .inr hnw
    · rcases q with q | q
      · exact wtW b q
      · subst q; exact r.thereN
    · rcases w with w | w
      · exact outW i b e w
      · subst w; exact ng (hs0 b (.inr ⟨i, e⟩))
  | p i =>
    cases hk
theorem call_exc {c : Nat} {x : T} {cls : Value} {d : Option Addr} (p0 : Post H0 O0 ρ0 H O ρ) (vp : VPs K TB (nw H0 O0 ρ0) H W O σ ρ l vs fr) (xp : XPost K TB C H (callW W fr O (argO ρ O l vs)) (argO ρ O l vs) sl c x cls d H') : XPost K TB C H0 W O0 ρ0 c x cls d H' := by
  refine ⟨xp.cls, xp.pay.weak (W_callW vp), fun b o e n z => xp.keep b o (p0.keep b o e n z) (fun q => ?_) z, xp.tab, fun b o e z => ?_⟩
  · rcases ow_arg vp q with q | q
    · rcases vp.new b q with q | q
      · exact q o e z
      · exact n q
    · exact n (p0.ow q)
  · obtain ⟨o1, e1, z1⟩ := p0.per b o e z
    exact xp.per b o1 e1 z1
theorem call_tail {f : Env → Rc} {Q : VK} (p : Post H0 O0 ρ0 H O ρ) (vp : VPs K TB (nw H0 O0 ρ0) H W O σ ρ l vs fr) (g1 : Go TB C Wx (kdV K TB σ) H0 W O0 ρ0 (callA f ρ l) Q) : spF K TB C f vs H Q fun cls d H' => Wx cls d σ H' := by
  have g1 : Go TB C Wx (kdV K TB σ) H0 W O0 ρ0 (match argS ρ l [] with | some sl => call2 l ρ (f sl) | none => .bad) Q := g1
  cases ea : argS ρ l [] with
  | none => rw [ea] at g1; exact g1.elim
  | some sl =>
    rw [ea] at g1
    have g1 : Go TB C Wx (kdV K TB σ) H0 W O0 ρ0 (call2 l ρ (f sl)) Q := g1
    refine ⟨_, _, sl, call_in vp ea, ?_⟩
    cases er : f sl with
    | bad => rw [er] at g1; exact g1
    | exc c x =>
      rw [er] at g1
      exact fun cls d H' xp => g1 cls d σ H' (call_exc p vp xp)
    | ret t k os =>
      rw [er] at g1
      have g1 : Go TB C Wx (kdV K TB σ) H0 W O0 ρ0 (cond (noP k) (match backS l os ρ with | some ρ => .ok ⟨t, k⟩ ρ | none => .bad) .bad) Q := g1
      cases ek : noP k with
      | false => rw [ek] at g1; exact g1.elim
      | true =>
      rw [ek] at g1
      have g1 : Go TB C Wx (kdV K TB σ) H0 W O0 ρ0 (match backS l os ρ with | some ρ => .ok ⟨t, k⟩ ρ | none => .bad) Q := g1
      intro v H' O' cp rv
      cases eb : backS l os ρ with
      | none => rw [eb] at g1; exact g1.elim
      | some ρ' =>
        rw [eb] at g1
        obtain ⟨z1, z2⟩ := call_out p vp ea cp rv eb ek
        exact g1 v H' _ z1 z2
theorem sem_call {f : Env → Rc} {rl : EVs} {Q : VK} (g : tE K TB C Wx (callK f rl) σ H Q) : tA K TB C Wx rl σ H fun vs H1 => spF K TB C f vs H1 Q fun cls d H' => Wx cls d σ H' := by
  obtain ⟨W, O, ρ, en, g⟩ := g
  refine ⟨W, O, ρ, en, Go.first (k := kdL K TB σ) g fun l ρ1 vs H1 O1 e p vp _ => ?_⟩
  obtain ⟨fr, vp⟩ := vp
  have g1 : Go TB C Wx (kdV K TB σ) H W O ρ ((rl ρ).bind fun l ρ => callA f ρ l) Q := g
  rw [e] at g1
  exact call_tail p vp g1
theorem VL.split {N : Addr → Prop} (h : VL K H N σ ρ l vs fr) : ∀ n, ∃ f1 f2, fr = f1 ++ f2 ∧ VL K H N σ ρ (l.take n) (vs.take n) f1 ∧ VL K H N σ ρ (l.drop n) (vs.drop n) f2 := by
  induction h with
  | nil => intro n; exact ⟨[], [], rfl, by simpa using .nil, by simpa using .nil⟩
  | @sh t v l vs fr r h' ih =>
    intro n
    cases n with
    | zero => exact ⟨[], fr, rfl, .nil, .sh r h'⟩
    | succ n =>
      obtain ⟨f1, f2, e, a, b⟩ := ih n
      exact ⟨f1, f2, e, .sh r a, b⟩
  | @fr t a l vs fr r h' ih =>
    intro n
    cases n with
    | zero => exact ⟨[], a :: fr, rfl, .nil, .fr r h'⟩
    | succ n =>
      obtain ⟨f1, f2, e, c, b⟩ := ih n
      exact ⟨a :: f1, f2, by rw [e]; rfl, .fr r c, b⟩
  | @pk t i v l vs fr x y h' ih =>
    intro n
    cases n with
    | zero => exact ⟨[], fr, rfl, .nil, .pk x y h'⟩
    | succ n =>
      obtain ⟨f1, f2, e, a, b⟩ := ih n
      exact ⟨f1, f2, e, .pk x y a, b⟩
theorem VL.snoc {N : Addr → Prop} (h : VL K H N σ ρ l vs fr) {t : T} {v : V} (r : Rep K H N t v) : VL K H N σ ρ (l ++ [⟨t, .s⟩]) (vs ++ [v]) fr := by
  induction h with
  | nil => exact .sh r .nil
  | sh r0 _ ih => exact .sh r0 ih
  | fr r0 _ ih => exact .fr r0 ih
  | pk a b _ ih => exact .pk a b ih
theorem VL.grow {N : Addr → Prop} (g : Grow H H') (h : VL K H N σ ρ l vs fr) : VL K H' N σ ρ l vs fr := by
  induction h with
  | nil => exact .nil
  | sh r _ ih => exact .sh (r.grow g) ih
  | fr r _ ih => exact .fr (r.grow g) ih
  | pk a b _ ih => exact .pk a b ih
theorem sem_callv {f : Env → Rc} {n : Nat} {rl : EVs} {Q : VK} (g : tE K TB C Wx (callvK f n rl) σ H Q) : tA K TB C Wx rl σ H fun vs H1 => ∃ ws rest, vs = ws ++ rest ∧ ws.length = n ∧ rest.length ≤ sizeLine ∧
    ∀ p, H1 p = Option.none → spF K TB C f (ws ++ [V.ref p]) (upd H1 p (.tup rest)) Q fun cls d H' => Wx cls d σ H' := by
  obtain ⟨W, O, ρ, en, g⟩ := g
  refine ⟨W, O, ρ, en, Go.first (k := kdL K TB σ) g fun l ρ1 vs H1 O1 e p vp _ => ?_⟩
  obtain ⟨fr, vp⟩ := vp
  have g1 : Go TB C Wx (kdV K TB σ) H W O ρ ((rl ρ).bind fun l ρ => cond (Nat.ble n l.length) (match packL n l with | some l' => callA f ρ l' | none => .bad) .bad) Q := g
  rw [e] at g1
  have g1 : Go TB C Wx (kdV K TB σ) H W O ρ (cond (Nat.ble n l.length) (match packL n l with | some l' => callA f ρ1 l' | none => .bad) .bad) Q := g1
  cases en : Nat.ble n l.length with
  | false => rw [en] at g1; exact g1.elim
  | true =>
    rw [en] at g1
    have g1 : Go TB C Wx (kdV K TB σ) H W O ρ (match packL n l with | some l' => callA f ρ1 l' | none => .bad) Q := g1
    cases ep : packL n l with
    | none => rw [ep] at g1; exact g1.elim
    | some l' =>
      rw [ep] at g1
      have g1 : Go TB C Wx (kdV K TB σ) H W O ρ (callA f ρ1 l') Q := g1
      obtain ⟨ts, e1, e2⟩ := optBind_some ep
      obtain ⟨e3, e4⟩ := cond_some e2
      cases e4
      obtain ⟨f1, f2, rfl, v1, v2⟩ := vp.vl.split n
      have hn : n ≤ l.length := Nat.le_of_ble_eq_true en
      have nd := List.nodup_append.mp vp.nd
      have r : Reps K H1 (NG (uni W f1) O1) ts (vs.drop n) := v2.giv (N' := NG (uni W f1) O1) (fun b q => ng_mono (fun b q => q.imp id fun m => List.mem_append_left _ m) b q) (fun a m q => by
        rcases q with (q | q) | q
        · exact vp.ng a (List.mem_append_right _ m) (.inl q)
        · exact nd.2.2 a q a m rfl
        · exact vp.ng a (List.mem_append_right _ m) (.inr q)) e1
      refine ⟨vs.take n, vs.drop n, (List.take_append_drop n vs).symm, by rw [List.length_take, ← vp.vl.ng]; omega, by rw [← r.length]; exact Nat.le_of_lt (sized_le e3), fun q hq => ?_⟩
      have gr : Grow H1 (upd H1 q (.tup (vs.drop n))) := Grow.upd hq
      have env1 : EnvRep K TB H1 (uni W f1) O1 σ ρ1 := vp.env.drop fun b z => z.imp id fun m => List.mem_append_left _ m
      refine call_tail (H0 := H) (O0 := O) (ρ0 := ρ) (p.trans (Post.grow gr)) (fr := f1) (l := l.take n ++ [⟨.tup ts, .s⟩]) ⟨nd.1, fun a m => vp.new a (List.mem_append_left _ m), fun a m => vp.ng a (List.mem_append_left _ m), env1.grow gr, ?_⟩ g1
      exact ((v1.weak fun b q => ng_mono (fun b q => q.imp id fun m => List.mem_append_left _ m) b q).grow gr).snoc (.tup (SqT.of upd_same) (r.grow gr))
end
end PB
end

section
set_option Elab.async false
set_option linter.all false
set_option maxRecDepth 100000
set_option maxHeartbeats 4000000
/-! Sound22: a def's body. -/
namespace PB
open PySem PySem.Spec PyProof.Rows L2
theorem slotAt_app : ∀ (a b : Env) (i : Nat), slotAt (a ++ b) i = if i < a.length then slotAt a i else slotAt b (i - a.length)
  | [], b, i => by simp
  | s :: a, b, 0 => by simp [slotAt]
  | s :: a, b, i + 1 => by
    show slotAt (a ++ b) i = _
    rw [slotAt_app a b i]
    show (if i < a.length then slotAt a i else slotAt b (i - a.length)) = if i + 1 < a.length + 1 then slotAt a i else slotAt b (i + 1 - (a.length + 1))
    simp only [Nat.add_lt_add_iff_right, Nat.add_sub_add_right]
theorem slotAt_nos : ∀ (n i : Nat), slotAt (nos n) i = .no
  | 0, i => rfl
  | n + 1, 0 => rfl
  | n + 1, i + 1 => slotAt_nos n i
theorem nos_len : ∀ n, (nos n).length = n
  | 0 => rfl
  | n + 1 => by show (nos n).length + 1 = _; rw [nos_len n]
theorem slot_end {ρ : Env} {i : Nat} (h : ρ.length ≤ i) : slotAt ρ i = .no := by
  cases e : slotAt ρ i with
  | no => rfl
  | _ => exact absurd (slot_lt (ρ := ρ) (i := i) (by rw [e]; nofun)) (Nat.not_lt.mpr h)
theorem entry_slot (sl : Env) (n i : Nat) : slotAt (sl ++ nos n) i = slotAt sl i := by
  rw [slotAt_app]
  split
  · rfl
  · rename_i h
    rw [slotAt_nos, slot_end (Nat.le_of_not_lt h)]
theorem outs_at : ∀ (sl q : Env) (j : Nat), sl.length ≤ q.length → slotAt (outs sl q) j = (match slotAt sl j with | .ow true _ => slotAt q j | _ => .no)
  | [], q, j, _ => by
    show slotAt (outs [] q) j = _
    have : outs [] q = [] := by cases q <;> rfl
    rw [this]
    rfl
  | s :: sl, [], j, h => absurd h (by simp)
  | s :: sl, x :: q, 0, h => by
    cases s with
    | ow b t => cases b <;> rfl
    | _ => rfl
  | s :: sl, x :: q, j + 1, h => by
    have ih := outs_at sl q j (by simpa using h)
    have e : outs (s :: sl) (x :: q) = (match s with | .ow true _ => x | _ => .no) :: outs sl q := by
      cases s with
      | ow b t => cases b <;> rfl
      | _ => rfl
    rw [e]
    exact ih
theorem outs_len : ∀ (sl q : Env), sl.length ≤ q.length → (outs sl q).length = sl.length
  | [], q, _ => by cases q <;> rfl
  | s :: sl, [], h => absurd h (by simp)
  | s :: sl, x :: q, h => by
    have ih := outs_len sl q (by simpa using h)
    have e : (outs (s :: sl) (x :: q)).length = (outs sl q).length + 1 := by
      cases s with
      | ow b t => cases b <;> rfl
      | _ => rfl
    rw [e, ih]; rfl
section
variable {K : PySem.W.Frag} {TB : List (Addr × Str)} {C : CT} {Wx : WX}
variable {H H' H0 H1 H2 : Hp} {W W' W1 : Addr → Prop} {O O' O0 O1 O2 : OA} {ρ ρ' sl os : Env} {σ σ' σ1 σ2 : L2.St} {vs : List V}
def outO (sl : Env) (O : OA) : OA := fun j => match slotAt sl j with
  | .ow true _ => O j
  | _ => none
theorem start_at {N : List Str} (i : Nat) : (L2.start N vs)[i]? = if i < vs.length then (vs.map some)[i]? else if i < max N.length vs.length then some none else none := by
  unfold L2.start
  by_cases c : i < vs.length
  · rw [if_pos c, List.getElem?_append_left (by simpa using c)]
  · rw [if_neg c, List.getElem?_append_right (by simpa using Nat.le_of_not_lt c), List.getElem?_replicate, List.length_map]
    by_cases d : i < max N.length vs.length
    · rw [if_pos d, if_pos (by omega)]
    · rw [if_neg d, if_neg (by omega)]
theorem sem_body {N : List Str} {nl : Nat} {r : ES} {Q : VK} {E : XK} {f : Env → Rc} (hf : ∀ sl, f sl = .bad ∨ (sl.length + nl = N.length ∧ f sl = fin sl (r (sl ++ nos nl)))) (g : spF K TB C f vs H Q E) :
    tS K TB C (fun cls d _ H' => E cls d H') r { nx := fun _ H' => Q .non H', rt := Q } (L2.start N vs) H := by
  obtain ⟨W, O, sl, en, g⟩ := g
  rcases hf sl with e | ⟨hl, e⟩
  · rw [e] at g; exact g.elim
  rw [e] at g
  have lenV : sl.length = vs.length := by rw [en.len, List.length_map]
  have en0 : EnvRep K TB H W O (L2.start N vs) (sl ++ nos nl) := by
    refine ⟨?_, fun i => ?_, en.inj, en.out, en.wt, en.tab⟩
    · unfold L2.start
      rw [List.length_append, nos_len, List.length_append, List.length_map, List.length_replicate]
      omega
    · rw [entry_slot]
      have q := en.sl i
      by_cases c : i < vs.length
      · rw [start_at, if_pos c]; exact q
      · have : slotAt sl i = .no := slot_end (by omega)
        rw [this] at q ⊢
        exact q
  have owE : ∀ b, Ow O (sl ++ nos nl) b → Ow O sl b := fun b ⟨i, bb, t, e1, e2⟩ => by
    rw [entry_slot] at e2
    exact ⟨i, bb, t, e1, e2⟩
  have owE2 : ∀ b, Ow O sl b → Ow O (sl ++ nos nl) b := fun b ⟨i, bb, t, e1, e2⟩ => ⟨i, bb, t, e1, by rw [entry_slot]; exact e2⟩
  refine ⟨W, O, sl ++ nos nl, en0, ?_⟩
  -- the end
  have last : ∀ {t : T} {k : PB.K} {ρ' : Env} {v : V} {σ' : L2.St} {H' : Hp} {O' : OA}, RGo K TB C vs H W O sl (.ret t k (outs sl ρ')) Q E → SPost no1 H O (sl ++ nos nl) (L2.start N vs) H' O' ρ' σ' → EnvRep K TB H' W O' σ' ρ' → k = .s ∨ k = .f →
      VPost K TB (nw H O (sl ++ nos nl)) H' W O' σ' ρ' ⟨t, k⟩ v → Q v H' := by
    intro t k ρ' v σ' H' O' g p en' hk vp
    have hle : sl.length ≤ ρ'.length := by
      rw [en'.len, p.len]
      unfold L2.start
      rw [List.length_append, List.length_map, List.length_replicate]
      omega
    have lent : ∀ j u, slotAt sl j = .ow true u → σ'[j]? = (vs.map some)[j]? ∧ ∀ a, O' j = some a → O j = some a := fun j u e => by
      obtain ⟨z1, _, z3⟩ := p.lnt j (by rw [entry_slot, e]; rfl)
      have hj : j < vs.length := by rw [← lenV]; exact slot_lt (by rw [e]; nofun)
      rw [start_at, if_pos hj] at z1
      exact ⟨z1, z3⟩
    have oo : ∀ j a, outO sl O' j = some a → O' j = some a ∧ O j = some a := fun j a e => by
      unfold outO at e
      cases es : slotAt sl j with
      | ow b u =>
        cases b with
        | true => rw [es] at e; exact ⟨e, (lent j u es).2 a e⟩
        | false => rw [es] at e; cases e
      | _ => rw [es] at e; cases e
    have hs : ∀ {Wz : Addr → Prop}, ∀ b, NG Wz (outO sl O') b → NG Wz O' b := fun b q => q.imp id fun ⟨i, q⟩ => ⟨i, (oo i b q).1⟩
    have env : ∀ {Wz : Addr → Prop}, EnvRep K TB H' Wz O' σ' ρ' → EnvRep K TB H' Wz (outO sl O') (vs.map some) (outs sl ρ') := fun {Wz} e => by
      refine ⟨by rw [outs_len sl ρ' hle, lenV, List.length_map], fun j => ?_, fun i j a e1 e2 => e.inj i j a (oo i a e1).1 (oo j a e2).1, fun i a e1 => e.out i a (oo i a e1).1, e.wt, e.tab⟩
      rw [outs_at sl ρ' j hle]
      have eo : outO sl O' j = (match slotAt sl j with | .ow true _ => O' j | _ => none) := rfl
      rw [eo]
      cases es : slotAt sl j with
      | ow b u =>
        cases b with
        | true =>
          have q := e.sl j
          rw [(lent j u es).1] at q
          exact q.weak hs
        | false => rfl
      | _ => rfl
    have nwE : ∀ a, nw H O (sl ++ nos nl) a → nw H O sl a := fun a q => q.imp id (owE a)
    refine g v H' (outO sl O') ⟨fun i a e => (oo i a e).2, fun b o e n z => p.keep b o e (fun q => n (owE b q)) z, p.per⟩ ?_
    rcases hk with rfl | rfl
    · exact ⟨vp.1.weak hs, env vp.2⟩
    · obtain ⟨a, e1, e2, e3, e4, e5⟩ := vp
      exact ⟨a, e1, nwE a e2, fun q => e3 (hs a q), e4.weak hs, env e5⟩
  cases er : r (sl ++ nos nl) with
  | bad => rw [er] at g; exact g
  | exc c x =>
    rw [er] at g
    exact fun cls d σ' H' xp => g cls d H' ⟨xp.cls, xp.pay, fun b o e n z => xp.keep b o e (fun q => n (owE b q)) z, xp.tab, xp.per⟩
  | ok fl ρ' =>
    rw [er] at g
    intro σ' H' O' p en'
    cases fl with
    | next => exact last (t := .non) (k := .s) g p en' (.inl rfl) ⟨.non, en'⟩
    | ret t k =>
      intro v vp
      cases k with
      | s => exact last g p en' (.inl rfl) vp
      | f => exact last g p en' (.inr rfl) vp
      | p i => exact g.elim
end
end PB
end

section
set_option Elab.async false
set_option linter.all false
set_option maxRecDepth 100000
set_option maxHeartbeats 4000000
/-! Sound23: except clauses one by one, with names or without. -/
namespace PB
open PySem PySem.Spec PyProof.Rows L2
/-- the exception at a has landed in X's frame: G the ground, t the state without it -/
structure Air (X : Cx) (pins : List (Addr × Obj)) (σ : L2.St) (H : Hp) (cls : Value) (d : Option Addr) (a : Addr) (G : Heap) (t s : Shared) : Prop where
  inv : Inv X pins σ H t
  ground : ∀ b o, t.heap.get? b = some o → b ∉ frs X.stack → G.get? b = some o
  up : t.heap.UpToSlots s.heap
  fly : HandSPX.FlyingZ G (X.env :: X.outer) a (Zc cls d) s.heap
  new : H a = none
  os : s.os = t.os
  bare : AllBare s.gens
/-- the clauses hds take an exception that w tells of -/
def HOk (X : Cx) (hds : List ExceptHandler) (w : Ends → WX) : Prop := ∀ pins D a cls d σ H G t s, Air X pins σ H cls d a G t s → w D cls d σ H →
  wpAny (model X.prog X.w) X.A (handleBy (.ref a) X.env hds) (SP X pins D) X.xe s
section
variable {X : Cx} {pins : List (Addr × Obj)} {σ : L2.St} {H : Hp} {cls : Value} {d : Option Addr} {a : Addr} {G : Heap} {t s : Shared}
/-- the state with the exception's object is one of ours -/
theorem Air.here (x : Air X pins σ H cls d a G t s) : Inv X pins σ H s := Inv.landed x.inv x.ground x.fly.1 x.up x.os x.bare
theorem Air.moved {h' : Heap} (x : Air X pins σ H cls d a G t s) (f : HandSPX.FlyingZ G (X.env :: X.outer) a (Zc cls d) h') (u : s.heap.UpToSlots h') : Air X pins σ H cls d a G t { s with heap := h' } :=
  ⟨x.inv, x.ground, x.up.trans u, f, x.new, x.os, x.bare⟩
/-- an except suite's context -/
theorem Air.room (x : Air X pins σ H cls d a G t s) (hf : X.env.frame = some X.env.locals) : ∃ oe, Zc cls d oe ∧ (∃ vs, oe.data = .fields vs) ∧ s.heap.get? a = some oe ∧ Inv (X.suite a ((a, oe) :: (X.pn ++ pins))) [] σ H s := by
  obtain ⟨oe, vs, g, z, dt⟩ := x.fly.there
  have out : a ∉ frs (X.env :: X.outer) := fun m => by
    obtain ⟨_, o2, g2, nf⟩ := x.fly.2.2.1.mem m
    rw [g] at g2
    cases g2
    exact nf vs dt
  have in_ : ∀ e ∈ X.env :: X.outer, e.frame ≠ some a := fun e m q => out (List.mem_filterMap.mpr ⟨e, m, q⟩)
  refine ⟨oe, z, ⟨vs, dt⟩, g, x.here.suite g dt x.new (fun q => in_ X.env List.mem_cons_self (by rw [hf, q])) fun m => ?_⟩
  obtain ⟨e, me, q⟩ := List.mem_filterMap.mp m
  exact in_ e (List.mem_cons_of_mem _ me) q
/-- no clause is left -/
theorem hok_nil {Wout : WX} (hs : X.stack = X.env :: X.outer) (hf : X.env.frame = some X.env.locals) (tk : Takes X Wout) : HOk X [] (fun _ => Wout) := by
  intro pins D a cls d σ H G t s x w
  obtain ⟨oe, vs, T, _, _, g, _, dt, v1, _⟩ := x.fly.2.2.2
  have away : wpAny (model X.prog X.w) X.A (do setFlight (.ref a) X.env.frame; (throw (.ref a) : Sem PySem.Flow)) (SP X pins D) X.xe s := by
    rw [hf]
    refine wpAny_bind (HandSPX.setFlight_upZ x.fly fun h' held up' => wpAny_throw (tk _ _ ⟨a, G, t, pins, σ, H, cls, d, rfl, x.inv, x.ground, x.up.trans up', ?_, x.new, x.os, x.bare, w⟩))
    rw [hs]
    exact .inr (.inr held)
  have tb : ((Value.ref T == Value.none) = true) = False := by simp
  refine wpAny_handleBy_nil ?_
  simp only [PySem.passOn]
  refine wpAny_bind (wpAny_field g dt v1 ?_)
  simp only [tb, if_false]
  first
    | exact away
    | exact wpAny_bind (wpAny_pure away)
/-- the class that the clause names is asked -/
theorem ask_clause {x : Str} {c : Value} {np pos' : Pos} {n : Option Str} {body : List Stmt} {rest : List ExceptHandler} {D : Ends} {b : Bool} (hf : X.env.frame = some X.env.locals) (y : Air X pins σ H cls d a G t s) (hc : Names X x c) (hm : PySem.W.exmOne X.K cls c = some b)
    (yes : b = true → codeAny (model X.prog X.w) (X.A.mark (some (.ref a))) (.handlers (.ref a) [.ExceptHandler none n body pos'] X.env) (fun r s₂ => match r with
          | .ok f => (match n with
            | none => SP X pins D f s₂
            | some m => wpAny (model X.prog X.w) X.A (do bindName X.env m .none; unbindBehindTheSuite X.env m pos') (fun _ s₃ => SP X pins D f s₃) X.xe s₂)
          | .error e => cameBackBy (model X.prog X.w) X.A X.env X.xe e s₂) s)
    (no : b = false → wpAny (model X.prog X.w) X.A (handleBy (.ref a) X.env rest) (SP X pins D) X.xe s) :
    wpAny (model X.prog X.w) X.A (handleBy (.ref a) X.env (.ExceptHandler (some (.Name x np)) n body pos' :: rest)) (SP X pins D) X.xe s := by
  obtain ⟨oe, z, _, g, I⟩ := y.room hf
  have ty : PySem.W.Looks (model X.prog X.w) s.heap (typeOf (.ref a)) cls := fun A Q E s1 k q => wpAny_typeOf_ref (k _ _ g) (z.1 ▸ q)
  have asked := PySem.W.exm_one (M := model X.prog X.w) y.here.kIn ty hm
  refine wpAny_handleBy_cons (codeAny_handlers_test ?_) nofun
  have named : ∀ {Q : Value → Shared → Prop} {E : Value → Shared → Prop}, Q c s → wpAny (model X.prog X.w) (X.A.mark (some (.ref a))) (eval (.Name x np) X.env) Q E s := by
    intro Q E q
    rcases hc with ⟨gl, db, own | ⟨no_, bi, nn⟩⟩
    · exact ld_glob I gl own q db
    · exact ld_blt I gl no_ bi q nn db
  refine named (asked.here ?_)
  cases b with
  | true => exact yes rfl
  | false => exact no rfl
/-- except X: .. -/
theorem hok_cons {x : Str} {c : Value} {ts : Addr → Value → Option Addr → TS} {b₀ : Stmt} {suite : List Stmt} {np pos' : Pos} {rest : List ExceptHandler} {w : Ends → WX} (hf : X.env.frame = some X.env.locals) (hc : Names X x c)
    (hsu : ∀ (a : Addr) (oe : Obj) (cls : Value) (d : Option Addr) (pn : List (Addr × Obj)), Zc cls d oe → (∃ vs, oe.data = .fields vs) → PSs (X.suite a ((a, oe) :: pn)) (b₀ :: suite) (ts a cls d)) (r : HOk X rest w) :
    HOk X (.ExceptHandler (some (.Name x np)) none (b₀ :: suite) pos' :: rest) (fun D cls d σ H => ∃ b, PySem.W.exmOne X.K cls c = some b ∧ (b = true → ∀ a, H a = none → ts a cls d D σ H) ∧ (b = false → w D cls d σ H)) := by
  intro pins D a cls d σ H G t s y ⟨b, hm, hy, hn⟩
  refine ask_clause hf y hc hm (fun e => ?_) fun e => r pins D a cls d σ H G t s y (hn e)
  refine codeAny_handlers_suite (HandSPX.lands_againZ y.fly fun h' f u => ?_)
  obtain ⟨oe, z, fv, g, I⟩ := (y.moved f u).room hf
  refine wpAny_mono ((hsu a oe cls d _ z fv).run [] _ σ H D I (hy e a y.new)) (fun fl s2 q => ?_) (fun _ _ q => q.elim)
  have ok := y.inv.ok
  cases fl with
  | next => obtain ⟨σ2, H2, J, q⟩ := q; exact ⟨σ2, H2, J.unsuite ok, q⟩
  | brk => obtain ⟨σ2, H2, J, q⟩ := q; exact ⟨σ2, H2, J.unsuite ok, q⟩
  | cont => obtain ⟨σ2, H2, J, q⟩ := q; exact ⟨σ2, H2, J.unsuite ok, q⟩
  | ret u => obtain ⟨v, σ2, H2, J, rv, q⟩ := q; exact ⟨v, σ2, H2, J.unsuite ok, rv, q⟩
/-- the name goes behind the suite -/
def goneD (D : Ends) (i : Nat) : Ends := { nx := fun σ' H' => D.nx (σ'.set i none) H', rt := D.rt, bk := fun σ' H' => D.bk (σ'.set i none) H', ct := fun σ' H' => D.ct (σ'.set i none) H' }
/-- except X as n: .. -/
theorem hok_as {x n : Str} {i : Nat} {c : Value} {ts : Addr → Value → Option Addr → TS} {b₀ : Stmt} {suite : List Stmt} {np pos' : Pos} {rest : List ExceptHandler} {w : Ends → WX} (hf : X.env.frame = some X.env.locals) (hN : X.N.Nodup) (hi : X.N[i]? = some n) (hln : X.env.kindOf n = some .local) (hc : Names X x c)
    (hsu : ∀ (a : Addr) (oe : Obj) (cls : Value) (d : Option Addr) (pn : List (Addr × Obj)), Zc cls d oe → (∃ vs, oe.data = .fields vs) → PSs (X.suite a ((a, oe) :: pn)) (b₀ :: suite) (ts a cls d)) (r : HOk X rest w) :
    HOk X (.ExceptHandler (some (.Name x np)) (some n) (b₀ :: suite) pos' :: rest) (fun D cls d σ H => ∃ b, PySem.W.exmOne X.K cls c = some b ∧ (b = true → ∀ a, H a = none → ts a cls d (goneD D i) (σ.set i (some (.ref a))) H) ∧ (b = false → w D cls d σ H)) := by
  intro pins D a cls d σ H G t s y ⟨b, hm, hy, hn⟩
  refine ask_clause hf y hc hm (fun e => ?_) fun e => r pins D a cls d σ H G t s y (hn e)
  refine codeAny_handlers_suite_as (HandSPX.lands_againZ y.fly fun h' f u => ?_)
  obtain ⟨oe, z, fv, g, I⟩ := (y.moved f u).room hf
  refine store_ok (X := X.suite a ((a, oe) :: (X.pn ++ pins))) (v := V.ref a) I hN hi (show Loc X.env.scope n from .inl hln) rfl (fun s3 I3 => ?_) (.inr hln)
  refine wpAny_mono ((hsu a oe cls d _ z fv).run [] s3 _ H (goneD D i) I3 (hy e a y.new)) (fun fl s2 q => ?_) (fun _ _ q => q.elim)
  have ok := y.inv.ok
  cases fl with
  | next => obtain ⟨σ2, H2, J, q⟩ := q; exact gone_ok (J.unsuite ok) hN hi hln fun s4 J4 => ⟨_, _, J4, q⟩
  | brk => obtain ⟨σ2, H2, J, q⟩ := q; exact gone_ok (J.unsuite ok) hN hi hln fun s4 J4 => ⟨_, _, J4, q⟩
  | cont => obtain ⟨σ2, H2, J, q⟩ := q; exact gone_ok (J.unsuite ok) hN hi hln fun s4 J4 => ⟨_, _, J4, q⟩
  | ret u => obtain ⟨v, σ2, H2, J, rv, q⟩ := q; exact gone_ok (J.unsuite ok) hN hi hln fun s4 J4 => ⟨v, _, _, J4, rv, q⟩
/-- try: body, and the clauses -/
theorem ps_try_ok {body : List Stmt} {h₀ : ExceptHandler} {hds : List ExceptHandler} {pos : Pos} {tb : WX → TS} {w : Ends → WX} (hs : X.stack = X.env :: X.outer) (hf : X.env.frame = some X.env.locals)
    (hb : ∀ (W : WX) (pn : List (Addr × Obj)) (xe : Value → Shared → Prop), Takes (X.tr pn xe) W → PassesOwn (model X.prog X.w) X.A X.env xe → PSs (X.tr pn xe) body (tb W))
    (hh : HOk X (h₀ :: hds) w) : PS X (.Try body (h₀ :: hds) [] [] pos) (fun D σ H => tb (w D) D σ H) := by
  refine ⟨fun pins s σ H D I h => wpAny_Try_except ?_⟩
  have ok := I.ok
  refine wpAny_mono ((hb (w D) (X.pn ++ pins) _ (fun u s' caught => ?_) PassesOwn.looking).run [] s σ H D (I.toTry _) h) (fun fl s1 q => ?_) (fun _ _ q => q)
  · obtain ⟨a, G, t, pn, σ', H', cls, d, rfl, It, gr, up, sky, na, os, bare, hw⟩ := caught
    have sky2 : Sky G (X.env :: X.outer) a (Zc cls d) X.env.locals s'.heap := hs ▸ sky
    exact Sky.land Zc.steady (by rw [ok.frames, hs]) hf sky2 fun h3 f3 u3 => hh pins D a cls d σ' H' G t _ ⟨It.ofTry ok, gr, up.trans u3, f3, na, os, bare⟩ hw
  · cases fl with
    | next => obtain ⟨σ2, H2, J, q⟩ := q; exact wpAny_execs_nil ⟨σ2, H2, J.ofTry ok, q⟩
    | brk => obtain ⟨σ2, H2, J, q⟩ := q; exact ⟨σ2, H2, J.ofTry ok, q⟩
    | cont => obtain ⟨σ2, H2, J, q⟩ := q; exact ⟨σ2, H2, J.ofTry ok, q⟩
    | ret u => obtain ⟨v, σ2, H2, J, rv, q⟩ := q; exact ⟨v, σ2, H2, J.ofTry ok, rv, q⟩
end
end PB
end

section
set_option Elab.async false
set_option linter.all false
set_option maxRecDepth 100000
set_option maxHeartbeats 4000000
/-! Sound24: raise, try, by readings. -/
namespace PB
open PySem PySem.Spec PyProof.Rows L2
section
variable {K : PySem.W.Frag} {TB : List (Addr × Str)} {C : CT} {Wx : WX}
variable {H H' H0 H1 H2 : Hp} {W W' W1 : Addr → Prop} {O O' O0 O1 O2 : OA} {ρ ρ' : Env} {σ σ' : L2.St}
/-- a class without a field is raised -/
theorem sem_rse0 {c : Nat} {t : T} {D : Ends} (hc : (C c).2 = none) (g : tS K TB C Wx (rseK c (cK t)) D σ H) : Wx (C c).1 none σ H := by
  obtain ⟨W, O, ρ, en, g⟩ := g
  have g : SGo K TB C Wx no1 H W O ρ σ (.exc c t) (FG K TB (nw H O ρ) W D) := g
  refine g _ none σ H ⟨rfl, ?_, fun _ _ e _ _ => e, en.tab, fun b o e z => ⟨o, e, z⟩⟩
  unfold PayRep
  rw [hc]
theorem allMay_at : ∀ {ρ : Env}, allMay ρ = true → ∀ i, mayStore (slotAt ρ i) = true
  | [], _, i => rfl
  | s :: r, h, i => by
    have h : cond (mayStore s) (allMay r) false = true := h
    cases e : mayStore s with
    | false => rw [e] at h; cases h
    | true =>
      rw [e] at h
      cases i with
      | zero => exact e
      | succ i => exact allMay_at (ρ := r) h i
/-- the state at an except suite's start: no slot is known -/
theorem tS.suite {r : ES} {D : Ends} {c : Nat} {x : T} {cls : Value} {d : Option Addr} (en : EnvRep K TB H W O σ ρ) (hm : allMay ρ = true) (xp : XPost K TB C H W O ρ c x cls d H') (hl : σ'.length = σ.length) (g : SGo K TB C Wx no1 H W O ρ σ (r (nos ρ.length)) (FG K TB (nw H O ρ) W D)) :
    tS K TB C Wx r D σ' H' := by
  have may := allMay_at hm
  have en' : EnvRep K TB H' W (fun _ => none) σ' (nos ρ.length) := by
    refine ⟨by rw [nos_len, en.len, hl], fun i => ?_, fun i j a e => (by cases e), fun i a e => (by cases e), fun a w => ?_, xp.tab⟩
    · rw [slotAt_nos]; rfl
    · obtain ⟨o, e, z⟩ := en.wt a w
      exact xp.per a o e z
  have sp : SPost no1 H O ρ σ H' (fun _ => none) (nos ρ.length) σ' := by
    refine ⟨fun i a e => (by cases e), xp.keep, xp.per, fun b ⟨i, _, _, e, _⟩ => (by cases e), fun i e => ?_, hl, fun i t e => ?_⟩
    · rw [may i] at e; cases e
    · have := may i
      rw [e] at this; cases this
  exact tS.later (r := r) (ρ := ρ) en' sp g
/-- what the clauses make of an exception, as the evaluator has it -/
def hSem (K : PySem.W.Frag) (TB : List (Addr × Str)) (C : CT) (Wx : WX) (w : Ends → WX) (h : EH) : Prop := ∀ (D : Ends) (c : Nat) (x : T) (cls : Value) (d : Option Addr) (H : Hp) (W : Addr → Prop) (O : OA) (ρ : Env) (σ σ' : L2.St) (H' : Hp), EnvRep K TB H W O σ ρ → allMay ρ = true →
  XPost K TB C H W O ρ c x cls d H' → σ'.length = σ.length → SGo K TB C Wx no1 H W O ρ σ (h c x (nos ρ.length)) (FG K TB (nw H O ρ) W D) → w D cls d σ' H'
theorem hSem_nil : hSem K TB C Wx (fun _ => Wx) hnilK := fun D c x cls d H W O ρ σ σ' H' en hm xp hl g => by
  have g : SGo K TB C Wx no1 H W O ρ σ (.exc c x) (FG K TB (nw H O ρ) W D) := g
  exact g cls d σ' H' xp
theorem hSem_cons {c' : Nat} {cv : Value} {b : T → ES} {rb : ES} {r : EH} {w : Ends → WX} (hb : ∀ x, b x = rb) (hx : ∀ c, PySem.W.exmOne K (C c).1 cv = some (Nat.beq c c')) (hr : hSem K TB C Wx w r) :
    hSem K TB C Wx (fun D cls d σ H => ∃ b, PySem.W.exmOne K cls cv = some b ∧ (b = true → ∀ a, H a = none → tS K TB C wF rb D σ H) ∧ (b = false → w D cls d σ H)) (hdK c' b r) := by
  intro D c x cls d H W O ρ σ σ' H' en hm xp hl g
  have g : SGo K TB C Wx no1 H W O ρ σ (cond (Nat.beq c c') (noX (b x (nos ρ.length))) (r c x (nos ρ.length))) (FG K TB (nw H O ρ) W D) := g
  refine ⟨Nat.beq c c', by rw [xp.cls]; exact hx c, fun e a _ => ?_, fun e => ?_⟩
  · rw [e, hb x] at g
    refine tS.suite en hm xp hl (Wx := wF) ?_
    have g : SGo K TB C Wx no1 H W O ρ σ (noX (rb (nos ρ.length))) (FG K TB (nw H O ρ) W D) := g
    cases er : rb (nos ρ.length) with
    | bad => rw [er] at g; exact g
    | exc c y => rw [er] at g; exact g.elim
    | ok fl ρ2 => rw [er] at g; exact g
  · rw [e] at g
    exact hr D c x cls d H W O ρ σ σ' H' en hm xp hl g
/-- a clause that is never taken (the evaluator knows nothing of its suite) -/
theorem hSem_never {c' i : Nat} {cv : Value} {b : T → ES} {r : EH} {w : Ends → WX} (hb : ∀ x ρ, b x ρ = .bad) (hx : ∀ c, PySem.W.exmOne K (C c).1 cv = some (Nat.beq c c')) (hr : hSem K TB C Wx w r) :
    hSem K TB C Wx (fun D cls d σ H => ∃ b, PySem.W.exmOne K cls cv = some b ∧ (b = true → ∀ a, H a = none → tNever (goneD D i) (σ.set i (some (.ref a))) H) ∧ (b = false → w D cls d σ H)) (hdK c' b r) := by
  intro D c x cls d H W O ρ σ σ' H' en hm xp hl g
  have g : SGo K TB C Wx no1 H W O ρ σ (cond (Nat.beq c c') (noX (b x (nos ρ.length))) (r c x (nos ρ.length))) (FG K TB (nw H O ρ) W D) := g
  refine ⟨Nat.beq c c', by rw [xp.cls]; exact hx c, fun e a _ => ?_, fun e => ?_⟩
  · rw [e, hb x] at g
    exact g.elim
  · rw [e] at g
    exact hr D c x cls d H W O ρ σ σ' H' en hm xp hl g
/-- try: the body under the clauses' wish -/
theorem sem_try {b : ES} {h : EH} {w : Ends → WX} {D : Ends} (hh : hSem K TB C Wx w h) (g : tS K TB C Wx (trK b h) D σ H) : tS K TB C (fun cls d σ' H' => σ'.length = σ.length → w D cls d σ' H') b D σ H := by
  obtain ⟨W, O, ρ, en, g⟩ := g
  refine ⟨W, O, ρ, en, ?_⟩
  have g : SGo K TB C Wx no1 H W O ρ σ (trK1 ρ.length (allMay ρ) h (b ρ)) (FG K TB (nw H O ρ) W D) := g
  cases e : b ρ with
  | bad => rw [e] at g; exact g
  | ok fl ρ' => rw [e] at g; exact g
  | exc c x =>
    rw [e] at g
    have g : SGo K TB C Wx no1 H W O ρ σ (cond (allMay ρ) (h c x (nos ρ.length)) .bad) (FG K TB (nw H O ρ) W D) := g
    cases em : allMay ρ with
    | false => rw [em] at g; exact g.elim
    | true =>
      rw [em] at g
      exact fun cls d σ' H' xp hl => hh D c x cls d H W O ρ σ σ' H' en em xp hl g
end
end PB
end

section
set_option Elab.async false
set_option linter.all false
set_option maxRecDepth 100000
set_option maxHeartbeats 4000000
/-! Sound25: several targets at once; list(range(..)). -/
namespace PB
open PySem PySem.Spec PyProof.Rows L2
section
variable {K : PySem.W.Frag} {TB : List (Addr × Str)} {C : CT} {Wx : WX}
variable {H H' H0 H1 H2 : Hp} {W W' W1 : Addr → Prop} {O O' O0 O1 O2 : OA} {ρ ρ' ρ0 : Env} {σ σ' σ0 : L2.St}
theorem sem_asgp {n : Nat} {rt : List TK → Env → R Unit} {re : EVs} {D : Ends} (g : tS K TB C Wx (asgpK n rt re) D σ H) : tA K TB C Wx re σ H fun vs H1 => vs.length = n ∧ tGs K TB C Wx rt vs σ H1 D.nx := by
  obtain ⟨W, O, ρ, en, g⟩ := g
  refine ⟨W, O, ρ, en, SGo.firstE (k := kdL K TB σ) g fun l ρ1 vs H1 O1 e p vp g1 => ?_⟩
  obtain ⟨fr, vp⟩ := vp
  have g1 : SGo K TB C Wx no1 H W O ρ σ (cond (Nat.beq l.length n && isSome (giv l)) ((rt l ρ1).bind fun _ ρ => .ok .next ρ) .bad) (FG K TB (nw H O ρ) W D) := g1
  cases ec : (Nat.beq l.length n && isSome (giv l)) with
  | false => rw [ec] at g1; exact g1.elim
  | true =>
    rw [ec] at g1
    obtain ⟨e1, e2⟩ := and_t ec
    have hg : ∃ ts, giv l = some ts := by
      cases eg : giv l with
      | none => rw [eg] at e2; cases e2
      | some ts => exact ⟨ts, rfl⟩
    refine ⟨by rw [← vp.vl.ng]; exact Nat.beq_eq.mp e1, H, O, ρ, σ, W, O1, ρ1, l, fr, .of p, vp, hg, ?_⟩
    exact SGo.first g1 fun _ ρ2 σ2 H2 O2 e2 p2 en2 g2 => g2 σ2 H2 O2 p2 en2
/-- a new thing beside -/
theorem tGs.grow {rt : List TK → Env → R Unit} {vs : List V} {Q : L2.St → Hp → Prop} (gr : Grow H H') (g : tGs K TB C Wx rt vs σ H Q) : tGs K TB C Wx rt vs σ H' Q := by
  obtain ⟨H0, O0, ρ0, σ0, W, O, ρ, l, fr, p, vp, hg, g⟩ := g
  exact ⟨H0, O0, ρ0, σ0, W, O, ρ, l, fr, p.trans (.of (Post.grow gr)) no1_any, ⟨vp.nd, vp.new, vp.ng, vp.env.grow gr, vp.vl.grow gr⟩, hg, g⟩
/-- two names -/
theorem sem_par {i j : Nat} {re : EVs} {D : Ends} (g : tS K TB C Wx (asgpK 2 (tconsK (setSlot i) (tconsK (setSlot j) tnilK)) re) D σ H) : tPar i j (tA K TB C Wx re) D σ H := by
  have g := sem_asgp g
  obtain ⟨W, O, ρ, en, g⟩ := g
  refine ⟨W, O, ρ, en, ?_⟩
  cases er : re ρ with
  | bad => rw [er] at g; exact g
  | exc c x => rw [er] at g; exact g
  | ok l ρ1 =>
    rw [er] at g
    intro vs H1 O1 p vp
    obtain ⟨_, g⟩ := g vs H1 O1 p vp
    obtain ⟨v, r, rfl, g1⟩ := sem_tcons g
    have g2 := sem_tn g1
    obtain ⟨w, r2, rfl, g3⟩ := sem_tcons g2
    have g4 := sem_tn g3
    obtain ⟨rfl, g5⟩ := sem_tnil g4
    exact ⟨v, w, rfl, g5⟩
theorem sem_par3 {i j k : Nat} {re : EVs} {D : Ends} (g : tS K TB C Wx (asgpK 3 (tconsK (setSlot i) (tconsK (setSlot j) (tconsK (setSlot k) tnilK))) re) D σ H) : tPar3 i j k (tA K TB C Wx re) D σ H := by
  have g := sem_asgp g
  obtain ⟨W, O, ρ, en, g⟩ := g
  refine ⟨W, O, ρ, en, ?_⟩
  cases er : re ρ with
  | bad => rw [er] at g; exact g
  | exc c x => rw [er] at g; exact g
  | ok l ρ1 =>
    rw [er] at g
    intro vs H1 O1 p vp
    obtain ⟨_, g⟩ := g vs H1 O1 p vp
    obtain ⟨v, r, rfl, g1⟩ := sem_tcons g
    have g2 := sem_tn g1
    obtain ⟨w, r2, rfl, g3⟩ := sem_tcons g2
    have g4 := sem_tn g3
    obtain ⟨u, r3, rfl, g5⟩ := sem_tcons g4
    have g6 := sem_tn g5
    obtain ⟨rfl, g7⟩ := sem_tnil g6
    exact ⟨v, w, u, rfl, g7⟩
/-- any targets, through a tuple -/
theorem sem_asgt {n : Nat} {rt : List TK → Env → R Unit} {re : EVs} {D : Ends} (hn : n ≤ sizeLine) (g : tS K TB C Wx (asgpK n rt re) D σ H) : tAsg (tTup (tA K TB C Wx re)) (gTup K n (tGs K TB C Wx rt)) D σ H := by
  have g := sem_asgp g
  obtain ⟨W, O, ρ, en, g⟩ := g
  refine ⟨W, O, ρ, en, ?_⟩
  cases er : re ρ with
  | bad => rw [er] at g; exact g
  | exc c x => rw [er] at g; exact g
  | ok l ρ1 =>
    rw [er] at g
    intro vs H1 O1 p vp
    obtain ⟨hl, g⟩ := g vs H1 O1 p vp
    exact ⟨by rw [hl]; exact hn, fun q hq => ⟨q, vs, rfl, SqT.of upd_same, hl, g.grow (Grow.upd hq)⟩⟩
/-! ### list(range(..)), tuple(range(..)) -/
theorem reps_rg : ∀ (lo : Int) (n : Nat) {N : Addr → Prop}, Reps K H N (rangeL lo n) ((List.range n).map fun i => V.int (lo + (i : Nat)))
  | lo, 0, N => .nil
  | lo, n + 1, N => by
    have e : ((List.range (n + 1)).map fun i => V.int (lo + (i : Nat))) = V.int lo :: (List.range n).map fun i => V.int (lo + 1 + (i : Nat)) := by
      rw [List.range_succ_eq_map, List.map_cons, List.map_map]
      congr 1
      · simp
      · exact List.map_congr_left fun i _ => by
          show V.int (lo + ((i + 1 : Nat) : Int)) = V.int (lo + 1 + (i : Int))
          congr 1
          omega
    rw [e]
    exact .cons (.int lo) (reps_rg (lo + 1) n)
theorem sized_rg {lo : Int} {n : Nat} (h : sized (rangeL lo n) = true) : n < 2 ^ 24 := by
  have := sized_le h
  rw [rangeL_len, sizeLine_eq] at this
  omega
theorem lit_go {l : List T} {Q : VK} {mk : List T → TK} {k1 : Kd K σ TK V} (g : Go TB C Wx k1 H W O ρ ((ofOpt (some l) ρ : R (List T)).bind fun l ρ => cond (sized l) (.ok (mk l) ρ) .bad) Q) : sized l = true ∧ Go TB C Wx k1 H W O ρ (.ok (mk l) ρ) Q := by
  have g : Go TB C Wx k1 H W O ρ (cond (sized l) (.ok (mk l) ρ) .bad) Q := g
  cases e : sized l with
  | false => rw [e] at g; exact g.elim
  | true => rw [e] at g; exact ⟨rfl, g⟩
theorem sem_rng1v {ra : EV} {mk : List T → TK} {Q : VK} {Rr : Int → Int → Hp → Prop} (g : tE K TB C Wx (fun ρ => (rng1K ra ρ).bind fun l ρ => cond (sized l) (.ok (mk l) ρ) .bad) σ H Q)
    (h : ∀ W O ρ n H1, EnvRep K TB H1 W O σ ρ → RgOk 0 n → Go TB C Wx (kdV K TB σ) H1 W O ρ (.ok (mk (rangeL 0 n.toNat)) ρ) Q → Rr 0 n H1) : tRg1 (tE K TB C Wx ra) σ H Rr := by
  have g : tR TB C Wx (kdV K TB σ) (fun ρ => (ra ρ).bind fun x ρ => ((ofOpt (rng1T (val ρ x)) ρ : R (List T)).bind fun l ρ => cond (sized l) (.ok (mk l) ρ) .bad)) H Q := by
    obtain ⟨W, O, ρ, en, g⟩ := g
    refine ⟨W, O, ρ, en, ?_⟩
    have e : ((rng1K ra ρ).bind fun l ρ => cond (sized l) (R.ok (mk l) ρ) .bad) = (ra ρ).bind fun x ρ => ((ofOpt (rng1T (val ρ x)) ρ : R (List T)).bind fun l ρ => cond (sized l) (.ok (mk l) ρ) .bad) := bind_assoc (ra ρ) _ _
    exact Eq.mp (congrArg (fun r => Go TB C Wx (kdV K TB σ) H W O ρ r Q) e) g
  refine one g fun W O ρ x v H1 en rx g => ?_
  cases ev : val ρ x with
  | int i =>
    rw [ev] at g rx
    cases es : small i with
    | false =>
      have g : Go TB C Wx (kdV K TB σ) H1 W O ρ ((ofOpt (cond (small i) (some (rangeL 0 i.toNat)) none) ρ : R (List T)).bind fun l ρ => cond (sized l) (.ok (mk l) ρ) .bad) Q := g
      rw [es] at g; exact g.elim
    | true =>
      have g : Go TB C Wx (kdV K TB σ) H1 W O ρ ((ofOpt (cond (small i) (some (rangeL 0 i.toNat)) none) ρ : R (List T)).bind fun l ρ => cond (sized l) (.ok (mk l) ρ) .bad) Q := g
      rw [es] at g
      obtain ⟨g1, g2⟩ := lit_go (mk := mk) g
      obtain ⟨h1, h2⟩ := small_of es
      have := sized_rg g1
      exact ⟨i, rx.int, h W O ρ i H1 en ⟨by omega, by omega, by omega, by omega, by omega⟩ g2⟩
  | _ => rw [ev] at g; exact g.elim
theorem sem_lit1 {ra : EV} {Q : VK} (g : tE K TB C Wx (litK (rng1K ra)) σ H Q) : tLstRg (tRg1 (tE K TB C Wx ra)) σ H Q :=
  sem_rng1v (mk := fun l => ⟨.lst l, .f⟩) g fun W O ρ n H1 en ok g => by
    have q : Res K H1 (NG W O) ⟨.lst (rangeL 0 n.toNat), .f⟩ Q := Go.res en g
    refine ⟨ok, q.newL ?_⟩
    have := reps_rg (K := K) (H := H1) (N := NG W O) 0 n.toNat
    unfold rgV
    rw [Int.sub_zero]
    exact this
theorem sem_tit1 {ra : EV} {Q : VK} (g : tE K TB C Wx (titK (rng1K ra)) σ H Q) : tTupRg (tRg1 (tE K TB C Wx ra)) σ H Q :=
  sem_rng1v (mk := fun l => ⟨.tup l, .s⟩) g fun W O ρ n H1 en ok g => by
    have q : Res K H1 (NG W O) ⟨.tup (rangeL 0 n.toNat), .s⟩ Q := Go.res en g
    refine ⟨ok, q.newT ?_⟩
    have := reps_rg (K := K) (H := H1) (N := NG W O) 0 n.toNat
    unfold rgV
    rw [Int.sub_zero]
    exact this
end
end PB
end

section
set_option Elab.async false
set_option linter.all false
set_option maxRecDepth 100000
set_option maxHeartbeats 4000000
/-! Sound26: rules of statements. -/
namespace PB
open PySem PySem.Spec PyProof.Rows L2
section
variable {X : Cx} {TB : List (Addr × Str)} {C : CT} {Wx : WX}
variable {a b c e : Expr} {st : Stmt} {sts sts2 : List Stmt} {pos pos' : Pos} {ra rb : EV} {pa pb : ES}
/-- the reading of a statement's run -/
abbrev sS (X : Cx) (TB : List (Addr × Str)) (C : CT) (Wx : WX) (st : Stmt) (r : ES) : Prop := PS X st (tS X.K TB C Wx r)
abbrev sSs (X : Cx) (TB : List (Addr × Str)) (C : CT) (Wx : WX) (st : List Stmt) (r : ES) : Prop := PSs X st (tS X.K TB C Wx r)
theorem s_pass : sS X TB C Wx (.Pass pos) skipK := ps_pass.mono fun _ _ _ g => sem_skip g
theorem s_doc {x j} : sS X TB C Wx (.Expr (.Constant (.str x) j pos) pos') skipK := ps_doc.mono fun _ _ _ g => sem_skip g
theorem s_nil : sSs X TB C Wx [] skipK := pss_nil.mono fun _ _ _ g => sem_skip g
theorem s_one (h : sS X TB C Wx st pa) : sSs X TB C Wx [st] pa := pss_one h
theorem s_cons (h : sS X TB C Wx st pa) (h2 : sSs X TB C Wx sts pb) : sSs X TB C Wx (st :: sts) (sqK pa pb) := (pss_cons h h2).mono fun _ _ _ g => sem_sq g
theorem s_docs {x j} (h2 : sSs X TB C Wx sts pb) : sSs X TB C Wx (.Expr (.Constant (.str x) j pos) pos' :: sts) pb := (pss_cons ps_doc h2).mono fun _ _ _ g => g
theorem s_ex (he : PE X e (tE X.K TB C Wx ra)) (hs : swapsWith e none pos.line X.env = pure false := by rfl) : sS X TB C Wx (.Expr e pos) (exK ra) := (ps_expr he hs).mono fun _ _ _ g => sem_ex g
theorem s_ret (he : PE X e (tE X.K TB C Wx ra)) : sS X TB C Wx (.Return (some e) pos) (retK ra) := (ps_ret he).mono fun _ _ _ g => sem_ret g
theorem s_rtv {i : Nat} {x : Str} (hN : X.N[i]? = some x) (hv : Vis X.env.scope x) (hd : (x == ("__debug__" : Str)) = false) (hcd : (x == ("__classdict__" : Str)) = false) : sS X TB C Wx (.Return (some (.Name x pos')) pos) (rtvK i) :=
  (ps_ret (pe_var hN hv hd hcd)).mono fun _ _ _ g => sem_rtv g
theorem s_asg {rt : EA} {tg : Expr} (he : PE X e (tE X.K TB C Wx ra)) (hg : PG X tg (tG X.K TB C Wx rt)) (hs : swapsWithSole [tg] e pos.line X.env = pure false := by rfl) (hw : swappedStores [tg] e X.env = pure none := by rfl)
    (h1 : (assignEach [tg] X.env).map (·.2) = [assign tg X.env] := by rfl) : sS X TB C Wx (.Assign [tg] e pos) (asgK rt ra) := (ps_asg he hg hs hw h1).mono fun _ _ _ g => sem_asg g
theorem s_if {rc : Env → R Bool} (hc : PT X c (tT X.K TB C Wx rc)) (ha : sSs X TB C Wx sts pa) (hb : sSs X TB C Wx sts2 pb) : sS X TB C Wx (.If c sts sts2 pos) (iteK rc pa pb) := (ps_if hc ha hb).mono fun _ _ _ g => sem_if g
theorem s_whl {n : Nat} {rc : Env → R Bool} (hp : PassesOwn (model X.prog X.w) X.A X.env X.xe) (hc : PT X c (tT X.K TB C Wx rc)) (hb : sSs X TB C Wx sts pb) : sS X TB C Wx (.While c sts [] pos) (whlK n rc pb) := (ps_while hp hc hb).mono fun _ _ _ g => sem_whl g
theorem s_for {pk : List Nat} {it : EI} {rt : EA} {tg : Expr} (hp : PassesOwn (model X.prog X.w) X.A X.env X.xe) (hc : X.calm = true) (hi : PI X tg e (tI X.K TB C Wx pk it)) (hg : PG X tg (tG X.K TB C Wx rt)) (hb : sSs X TB C Wx sts pb)
    (hs : ∀ x, foldedSetIterable e X.env x = pure x := by intro _; rfl) : sS X TB C Wx (.For tg e sts [] pos) (frK pk rt it pb) := (ps_for hp hc hi hg hb hs).mono fun _ _ _ g => sem_for g
theorem t_name {i : Nat} {x : Str} (hN : X.N.Nodup) (hi : X.N[i]? = some x) (hx : Loc X.env.scope x) (hf : X.fn x = true ∨ X.env.scope.names.lookup x = some .local) : PG X (.Name x pos) (tG X.K TB C Wx (setSlot i)) :=
  (pg_name hN hi hx hf).mono fun _ _ _ _ g => sem_tn g
theorem tE_imp {K : PySem.W.Frag} {σ : L2.St} {H : Hp} {Q Q' : VK} (g : tE K TB C Wx ra σ H Q) (h : ∀ v H', Q v H' → Q' v H') : tE K TB C Wx ra σ H Q' := by
  obtain ⟨W, O, ρ, en, g⟩ := g
  refine ⟨W, O, ρ, en, ?_⟩
  revert g
  cases ra ρ with
  | ok x ρ1 => exact fun g v H' O' p vp => h v H' (g v H' O' p vp)
  | exc c x => exact id
  | bad => exact id
/-- x = e, also where the right side is a comprehension on the row of its target -/
theorem s_set {i : Nat} {x : Str} (hN : X.N.Nodup) (hi : X.N[i]? = some x) (hx : Loc X.env.scope x) (hf : X.fn x = true ∨ X.env.scope.names.lookup x = some .local) (he : PE X e (tE X.K TB C Wx ra)) (hs : swapsWith e (some (.Name x pos')) pos.line X.env = pure false := by rfl) : sS X TB C Wx (.Assign [.Name x pos'] e pos) (asgK (setSlot i) ra) :=
  (ps_set hN hi hx he hs hf).mono fun D σ H g => tE_imp (sem_asg g) fun v H' h => sem_tn h
end
end PB
end

section
set_option Elab.async false
set_option linter.all false
set_option maxRecDepth 100000
set_option maxHeartbeats 4000000
/-! Sound27: a comprehension on the row of its target; several targets. -/
namespace PB
open PySem PySem.Spec PyProof.Rows L2
section
variable {X : Cx} {TB : List (Addr × Str)} {C : CT} {Wx : WX}
variable {a b c e : Expr} {st : Stmt} {pos pos' px py pz pt pt2 : Pos} {ra rb : EV} {re : EVs} {own ownB pk : List Nat}
theorem s_setLc {i : Nat} {wi : TI} {g : TG} {tt : TT} {te : TE} {R : EV} (h : PS X st (tAsg (tLc wi g tt te own) (gName i))) (m : ∀ σ H Q, tE X.K TB C Wx R σ H Q → tLc wi g tt te own σ H Q) : sS X TB C Wx st (asgK (setSlot i) R) :=
  h.mono fun D σ H g => m σ H _ (tE_imp (sem_asg g) fun v H' h => sem_tn h)
theorem s_setLc2 {i : Nat} {wi wi1 : TI} {g g1 : TG} {tt tt1 : TT} {te : TE} {R : EV} (h : PS X st (tAsg (tLc2 wi g tt wi1 g1 tt1 te own ownB) (gName i))) (m : ∀ σ H Q, tE X.K TB C Wx R σ H Q → tLc2 wi g tt wi1 g1 tt1 te own ownB σ H Q) : sS X TB C Wx st (asgK (setSlot i) R) :=
  h.mono fun D σ H g => m σ H _ (tE_imp (sem_asg g) fun v H' h => sem_tn h)
theorem s_par {i j : Nat} {x y : Str} {kt k2} (hc : X.calm = true) (hN : X.N.Nodup) (hi : X.N[i]? = some x) (hj : X.N[j]? = some y) (hij : i ≠ j)
    (hx : X.env.scope.names.lookup x = some .local) (hy : X.env.scope.names.lookup y = some .local) (ha : PA X [a, b] (tA X.K TB C Wx re))
    (hw : swappedStores [.Tuple [.Name x px, .Name y py] kt pt] (.Tuple [a, b] k2 pt2) X.env = pure (some [x, y]))
    (hs : swapsWithSole [.Tuple [.Name x px, .Name y py] kt pt] (.Tuple [a, b] k2 pt2) pos.line X.env = pure false := by rfl) :
    sS X TB C Wx (.Assign [.Tuple [.Name x px, .Name y py] kt pt] (.Tuple [a, b] k2 pt2) pos) (asgpK 2 (tconsK (setSlot i) (tconsK (setSlot j) tnilK)) re) :=
  (ps_par hc hN hi hj hij hx hy ha hw hs).mono fun _ _ _ g => sem_par g
theorem s_aug {i : Nat} {x : Str} {op : Operator} {o : PB.O2} {f : Int → Int → Int} (hN : X.N.Nodup) (hi : X.N[i]? = some x) (hx : Loc X.env.scope x) (hf : X.fn x = true ∨ X.env.scope.names.lookup x = some .local) (he : PE X e (tE X.K TB C Wx ra)) (ho : PIp X op (ipI f))
    (hm : ∀ x y r, op2 o (.int x) y = some r → ∀ z, intTK r = some z → ∃ j, y = .int j ∧ z = .int (f x j)) : sS X TB C Wx (.AugAssign (.Name x pos') op e pos) (augK i o ra) :=
  (ps_aug hN hi hx he ho hf).mono fun _ _ _ g => sem_aug hm g
theorem t_nil : PGs X [] (tGs X.K TB C Wx tnilK) := pgs_nil.mono fun _ _ _ _ g => sem_tnil g
theorem t_cons {rt : EA} {rl : List TK → Env → R Unit} {es : List Expr} (h : PG X e (tG X.K TB C Wx rt)) (h2 : PGs X es (tGs X.K TB C Wx rl))
    (hs : (assignEach (e :: es) X.env).map (·.2) = assign e X.env :: (assignEach es X.env).map (·.2) := by rfl) : PGs X (e :: es) (tGs X.K TB C Wx (tconsK rt rl)) := (pgs_cons h h2 hs).mono fun _ _ _ _ g => sem_tcons g
theorem t_tup {rl : List TK → Env → R Unit} {es : List Expr} {k n : Nat} (hc : X.calm = true) (h : PGs X es (tGs X.K TB C Wx rl))
    (hn : (assignEach es X.env).length = n := by rfl) (hst : (assignEach es X.env).findIdx? (·.1) = none := by rfl) : PG X (.Tuple es k pos) (tG X.K TB C Wx (ttK n rl)) := (pg_tup hc h hn hst).mono fun _ _ _ _ g => sem_tt g
end
end PB
end

section
set_option Elab.async false
set_option linter.all false
set_option maxRecDepth 100000
set_option maxHeartbeats 4000000
/-! Sound28: rules of comprehensions. -/
namespace PB
open PySem PySem.Spec PyProof.Rows L2
section
variable {X : Cx} {TB : List (Addr × Str)} {C : CT} {Wx : WX}
variable {elt kx vx tg iter tg1 iter1 cn cn1 : Expr} {ifs ifs1 : List Expr} {scope : Scope} {ow : List (Str × Nat)} {own ownB pk pk1 : List Nat} {pos py spos : Pos}
variable {it it1 : EI} {rt rt1 : EA} {rc rc1 : Env → R Bool} {re rk : EV}
/-- in each block of a comprehension's scope -/
abbrev Bk (X : Cx) (scope : Scope) (P : Cx → Prop) : Prop := ∀ (s : Shared) (H : Hp) (A : Addr) (cl : List (Str × Addr)) (fp : List Addr), P (X.blk s H scope (compEnvC scope cl A X.env) fp)
theorem c_nil : Bk X scope fun Y => PTs Y [] (tT X.K TB C wF yesK) := fun _ _ _ _ _ => ⟨fun pins s σ H Q I g => pts_nil.run pins s σ H Q I (sem_yes g)⟩
theorem c_one (h : Bk X scope fun Y => PT Y cn (tT Y.K TB C wF rc)) : Bk X scope fun Y => PTs Y [cn] (tT X.K TB C wF rc) := fun s H A cl fp => pts_one (h s H A cl fp)
theorem r_lc (hc : X.calm = true) (hN : X.N.Nodup) (hi : PI X tg iter (tI X.K TB C Wx pk it)) (ok : BlkOk X.N X.env.scope scope ow) (hO : ow.map (·.2) = own)
    (hg : Bk X scope fun Y => PG Y tg (tC Y.K TB own rt)) (ht : Bk X scope fun Y => PTs Y ifs (tT X.K TB C wF rc)) (he : Bk X scope fun Y => PE Y elt (tE Y.K TB C wF re)) (hs : ∀ x, foldedSetIterable iter X.env x = pure x := by intro _; rfl) :
    PE X (.ListComp elt [⟨tg, iter, ifs, 0⟩] scope pos) (tE X.K TB C Wx (compK own (genK own pk rt it rc (eltK re)))) := by
  subst hO
  exact (pe_lc hc hN hi ok hg ht he hs).mono fun σ H Q g => sem_comp1 g
theorem s_lc {i : Nat} {y : Str} (hc : X.calm = true) (hN : X.N.Nodup) (hy : X.N[i]? = some y) (hyl : X.env.scope.names.lookup y = some .local) (hi : PI X tg iter (tI X.K TB C Wx pk it)) (ok : BlkOk X.N X.env.scope scope ow) (hO : ow.map (·.2) = own)
    (hg : Bk X scope fun Y => PG Y tg (tC Y.K TB own rt)) (ht : Bk X scope fun Y => PTs Y ifs (tT X.K TB C wF rc)) (he : Bk X scope fun Y => PE Y elt (tE Y.K TB C wF re))
    (hsw : swapsWith (.ListComp elt [⟨tg, iter, ifs, 0⟩] scope pos) (some (.Name y py)) spos.line X.env = pure true) (hs : ∀ x, foldedSetIterable iter X.env x = pure x := by intro _; rfl) :
    sS X TB C Wx (.Assign [.Name y py] (.ListComp elt [⟨tg, iter, ifs, 0⟩] scope pos) spos) (asgK (setSlot i) (compK own (genK own pk rt it rc (eltK re)))) := by
  subst hO
  exact s_setLc (ps_setLc hc hN hy hyl hsw hi ok hg ht he hs) fun σ H Q g => sem_comp1 g
theorem r_lc2 (hc : X.calm = true) (hN : X.N.Nodup) (hi : PI X tg iter (tI X.K TB C Wx pk it)) (ok : BlkOk X.N X.env.scope scope ow) (hO : ow.map (·.2) = own) (hsub : ∀ i, i ∈ ownB → i ∈ own)
    (hg : Bk X scope fun Y => PG Y tg (tC Y.K TB own rt)) (ht : Bk X scope fun Y => PTs Y ifs (tT X.K TB C wF rc))
    (hi1 : Bk X scope fun Y => PI Y tg1 iter1 (tI Y.K TB C wF pk1 it1)) (hg1 : Bk X scope fun Y => PG Y tg1 (tC Y.K TB ownB rt1)) (ht1 : Bk X scope fun Y => PTs Y ifs1 (tT X.K TB C wF rc1))
    (he : Bk X scope fun Y => PE Y elt (tE Y.K TB C wF re)) (hs : ∀ x, foldedSetIterable iter X.env x = pure x := by intro _; rfl) (hs1 : ∀ env x, foldedSetIterable iter1 env x = pure x := by intro _ _; rfl) :
    PE X (.ListComp elt [⟨tg, iter, ifs, 0⟩, ⟨tg1, iter1, ifs1, 0⟩] scope pos) (tE X.K TB C Wx (compK own (genK own pk rt it rc (genK ownB pk1 rt1 it1 rc1 (eltK re))))) := by
  subst hO
  exact (pe_lc2 hc hN hi ok hsub hg ht hi1 hg1 ht1 he hs hs1).mono fun σ H Q g => sem_comp2 hsub g
theorem s_lc2 {i : Nat} {y : Str} (hc : X.calm = true) (hN : X.N.Nodup) (hy : X.N[i]? = some y) (hyl : X.env.scope.names.lookup y = some .local) (hi : PI X tg iter (tI X.K TB C Wx pk it)) (ok : BlkOk X.N X.env.scope scope ow) (hO : ow.map (·.2) = own) (hsub : ∀ i, i ∈ ownB → i ∈ own)
    (hg : Bk X scope fun Y => PG Y tg (tC Y.K TB own rt)) (ht : Bk X scope fun Y => PTs Y ifs (tT X.K TB C wF rc))
    (hi1 : Bk X scope fun Y => PI Y tg1 iter1 (tI Y.K TB C wF pk1 it1)) (hg1 : Bk X scope fun Y => PG Y tg1 (tC Y.K TB ownB rt1)) (ht1 : Bk X scope fun Y => PTs Y ifs1 (tT X.K TB C wF rc1))
    (he : Bk X scope fun Y => PE Y elt (tE Y.K TB C wF re)) (hsw : swapsWith (.ListComp elt [⟨tg, iter, ifs, 0⟩, ⟨tg1, iter1, ifs1, 0⟩] scope pos) (some (.Name y py)) spos.line X.env = pure true)
    (hs : ∀ x, foldedSetIterable iter X.env x = pure x := by intro _; rfl) (hs1 : ∀ env x, foldedSetIterable iter1 env x = pure x := by intro _ _; rfl) :
    sS X TB C Wx (.Assign [.Name y py] (.ListComp elt [⟨tg, iter, ifs, 0⟩, ⟨tg1, iter1, ifs1, 0⟩] scope pos) spos) (asgK (setSlot i) (compK own (genK own pk rt it rc (genK ownB pk1 rt1 it1 rc1 (eltK re))))) := by
  subst hO
  exact s_setLc2 (ps_setLc2 hc hN hy hyl hsw hi ok hsub hg ht hi1 hg1 ht1 he hs hs1) fun σ H Q g => sem_comp2 hsub g
theorem r_dc (hc : X.calm = true) (hN : X.N.Nodup) (hi : PI X tg iter (tI X.K TB C Wx pk it)) (ok : BlkOk X.N X.env.scope scope ow) (hO : ow.map (·.2) = own)
    (hg : Bk X scope fun Y => PG Y tg (tC Y.K TB own rt)) (ht : Bk X scope fun Y => PTs Y ifs (tT X.K TB C wF rc)) (hk : Bk X scope fun Y => PE Y kx (tE Y.K TB C wF rk)) (he : Bk X scope fun Y => PE Y vx (tE Y.K TB C wF re)) (hs : ∀ x, foldedSetIterable iter X.env x = pure x := by intro _; rfl) :
    PE X (.DictComp kx vx [⟨tg, iter, ifs, 0⟩] scope pos) (tE X.K TB C Wx (dcompK own (dgenK own pk rt it rc (kvK rk re)))) := by
  subst hO
  exact (pe_dc hc hN hi ok hg ht hk he hs).mono fun σ H Q g => sem_dcomp g
end
end PB
end

section
set_option Elab.async false
set_option linter.all false
set_option maxRecDepth 100000
set_option maxHeartbeats 4000000
/-! Sound29: rules of raise and try. -/
namespace PB
open PySem PySem.Spec PyProof.Rows L2
section
variable {X : Cx} {TB : List (Addr × Str)} {C : CT} {Wx : WX} {pos : Pos}
/-- o[i] = .. , o a local list or dict of its own -/
theorem t_sub {i : Nat} {x : Str} {ix : Expr} {ra : EV} {p : Pos} (hu : X.A.units + 1 < cLine) (hN : X.N[i]? = some x) (hv : Vis X.env.scope x) (hd : (x == ("__debug__" : Str)) = false) (hcd : (x == ("__classdict__" : Str)) = false) (hi : PE X ix (tE X.K TB C Wx ra))
    (ha : ∀ v, assign (.Subscript (.Name x p) ix pos) X.env v = (do
      let ov ← holding [v] (eval (.Name x p) X.env)
      let iv ← holding [v, ov] (eval ix X.env)
      standAt pos
      holding [v, ov, iv] (setItem ov iv v)
      release [v, ov, iv] []) := by intro _; rfl) : PG X (.Subscript (.Name x p) ix pos) (tG X.K TB C Wx (tsK i ra)) :=
  (pg_sub (pe_var hN hv hd hcd) hi (ok_set hu) ha).mono fun _ _ _ _ g => sem_ts g
theorem s_rse0 {e : Expr} {cls : Value} {c : Nat} {t : T} (hc : X.calm = true) (tk : Takes X Wx) (he : PMk X e (fun _ H Q => Q cls none H)) (hC : C c = (cls, none)) : sS X TB C Wx (.Raise (some e) none pos) (rseK c (cK t)) :=
  (ps_raise hc tk he).mono fun D σ H g => by
    have g1 := sem_rse0 (K := X.K) (by rw [hC]) g
    rw [hC] at g1
    exact g1
theorem s_try {body : List Stmt} {h₀ : ExceptHandler} {hds : List ExceptHandler} {w : Ends → WX} {b : ES} {h : EH} (hs : X.stack = X.env :: X.outer) (hf : X.env.frame = some X.env.locals)
    (hb : ∀ (W : WX) (pn : List (Addr × Obj)) (xe : Value → Shared → Prop), Takes (X.tr pn xe) W → PassesOwn (model X.prog X.w) X.A X.env xe → sSs (X.tr pn xe) TB C W body b)
    (hh : HOk X (h₀ :: hds) w) (hm : hSem X.K TB C Wx w h) : sS X TB C Wx (.Try body (h₀ :: hds) [] [] pos) (trK b h) := by
  refine ⟨fun pins s σ H D I g => ?_⟩
  have g1 := sem_try hm g
  rw [I.len] at g1
  exact (ps_try_ok (tb := fun W => tS X.K TB C W b) (w := fun D cls d σ' H' => σ'.length = X.N.length → w D cls d σ' H') hs hf hb (fun pins D a cls d σ H G t s x hw => hh pins D a cls d σ H G t s x (hw x.inv.len))).run pins s σ H D I g1
end
end PB
end

section
set_option Elab.async false
set_option linter.all false
set_option maxRecDepth 100000
set_option maxHeartbeats 4000000
/-! Sound30: rules of the targets of comprehensions. -/
namespace PB
open PySem PySem.Spec PyProof.Rows L2
section
variable {X : Cx} {TB : List (Addr × Str)} {own : List Nat} {pos : Pos} {e : Expr} {es : List Expr}
theorem ct_name {i : Nat} {x : Str} (ho : i ∈ own) (hN : X.N.Nodup) (hi : X.N[i]? = some x) (hx : Loc X.env.scope x) (hf : X.fn x = true ∨ X.env.scope.names.lookup x = some .local) : PG X (.Name x pos) (tC X.K TB own (setSlot i)) :=
  (pg_name hN hi hx hf).mono fun _ _ _ _ g => sem_ctn ho g
theorem ct_nil : PGs X [] (tCs X.K TB own tnilK) := pgs_nil.mono fun _ _ _ _ g => sem_ctnil g
theorem ct_cons {rt : EA} {rl : List TK → Env → R Unit} (h : PG X e (tC X.K TB own rt)) (h2 : PGs X es (tCs X.K TB own rl))
    (hs : (assignEach (e :: es) X.env).map (·.2) = assign e X.env :: (assignEach es X.env).map (·.2) := by rfl) : PGs X (e :: es) (tCs X.K TB own (tconsK rt rl)) := (pgs_cons h h2 hs).mono fun _ _ _ _ g => sem_ctcons g
theorem ct_tup {rl : List TK → Env → R Unit} {k n : Nat} (hc : X.calm = true) (h : PGs X es (tCs X.K TB own rl))
    (hn : (assignEach es X.env).length = n := by rfl) (hst : (assignEach es X.env).findIdx? (·.1) = none := by rfl) : PG X (.Tuple es k pos) (tC X.K TB own (ttK n rl)) := (pg_tup hc h hn hst).mono fun _ _ _ _ g => sem_ctt g
end
end PB
end

section
set_option Elab.async false
set_option linter.all false
set_option maxRecDepth 100000
set_option maxHeartbeats 4000000
/-! Sound31: rules of calls. -/
namespace PB
open PySem PySem.Spec PyProof.Rows L2
section
variable {X : Cx} {TB : List (Addr × Str)} {C : CT} {Wx : WX} {CX : CXT} {k : Nat} {f : Addr} {fd : FuncData} {ps : List Str} {x : Str} {e : Expr} {es : List Expr} {p pos : Pos}
theorem r_call {fn : Env → Rc} {rl : EVs} (F : FnOk X.prog X.w X.K X.mg X.base CX k f fd ps (spF X.K TB C fn)) (hr : Room k X.A) (hg : Gl X x) (hm : X.mg x = some (.ref f)) (hk : PySem.W.keepIn X.K (.ref f) = true) (hb : Binds X.K fd ps [])
    (hx : ∀ σ, PassesAt CX X σ (fun cls d H' => Wx cls d σ H')) (ha : PA X (e :: es) (tA X.K TB C Wx rl)) (hd : (x == ("__debug__" : Str)) = false)
    (he : starEach (e :: es) X.env = (false, eval e X.env) :: starEach es X.env := by rfl) (hpl : (backTo pos (starEach es X.env)).any (·.1) = false := by rfl) :
    PE X (.Call (.Name x p) (e :: es) [] pos) (tE X.K TB C Wx (callK fn rl)) :=
  (pe_callS (E := fun σ cls d H' => Wx cls d σ H') F hr hg hm hk hb hx ha hd he hpl).mono fun σ H Q g => sem_call g
end
end PB
end

section
set_option Elab.async false
set_option linter.all false
set_option maxRecDepth 100000
set_option maxHeartbeats 4000000
/-! Sound32: a def and its evaluator. -/
namespace PB
open PySem PySem.Spec PyProof.Rows L2
section
variable {TB : List (Addr × Str)} {C : CT}
theorem fn_spF {CX : CXT} {P : Program} {w : World} {K : PySem.W.Frag} {mg : Str → Option Value} {base : Heap} {k : Nat} {f : Addr} {name qual : Str} {params : Arguments} {body : List Stmt} {scope : Scope} {dV kV doc pm cdv ct oc : Value} {an od : Option Addr}
    {osl : Array (Option Value)} {N ps : List Str} {fn : Env → Rc} {r : ES} {nl : Nat} (lk : K.lookup f = some ⟨oc, od, .func (PySem.W.fnOf name qual params body scope dV kV doc pm an cdv ct), osl⟩) (hcd : PySem.W.codeIn K cdv qual = true) (S : FnScope N ps scope)
    (hn : ps.length + nl = N.length) (hf : ∀ sl, fn sl = .bad ∨ (sl.length + nl = N.length ∧ fn sl = fin sl (r (sl ++ nos nl))))
    (hb : ∀ (A : Around) (outer : List PySem.Env) (s : Shared) (H : Hp) (E : XK), Room k (A.deeper (envOfC qual scope s.heap.objs.size f cdv)) → PSs (cxOf CX P w K mg base N qual scope f cdv A outer s H E) body (tS K TB C (fun cls d _ H' => E cls d H') r)) :
    FnOk P w K mg base CX (k + 1) f (PySem.W.fnOf name qual params body scope dV kV doc pm an cdv ct) ps (spF K TB C fn) := by
  refine fn_of lk hcd S (fun vs H Q E g => ?_) fun A outer s H vs Q E hr g => ⟨_, hb A outer s H E hr, sem_body hf g⟩
  obtain ⟨W, O, sl, en, g⟩ := g
  rcases hf sl with e | ⟨hl, e⟩
  · rw [e] at g; exact g.elim
  · have lenV : sl.length = vs.length := by rw [en.len, List.length_map]
    omega
/-- the same over the head's datum of a def -/
theorem fn_ok {CX : CXT} {P : Program} {w : World} {K : PySem.W.Frag} {mg : Str → Option Value} {base : Heap} {k : Nat} {f : Addr} {fd : FuncData} {x qual : Str} {params : Arguments} {body : List Stmt} {scope : Scope} {dvs : List V} {kws : List (Str × V)}
    {N ps : List Str} {fn : Env → Rc} {r : ES} {nl : Nat} (F : FunD K x qual params body scope dvs kws f fd) (S : FnScope N ps scope)
    (hn : ps.length + nl = N.length) (hf : ∀ sl, fn sl = .bad ∨ (sl.length + nl = N.length ∧ fn sl = fin sl (r (sl ++ nos nl))))
    (hb : ∀ (cdv : Value) (A : Around) (outer : List PySem.Env) (s : Shared) (H : Hp) (E : XK), Room k (A.deeper (envOfC qual scope s.heap.objs.size f cdv)) → PSs (cxOf CX P w K mg base N qual scope f cdv A outer s H E) body (tS K TB C (fun cls d _ H' => E cls d H') r)) :
    FnOk P w K mg base CX (k + 1) f fd ps (spF K TB C fn) := by
  refine F.ok S (fun vs H Q E g => ?_) fun cdv A outer s H vs Q E hr g => ⟨_, hb cdv A outer s H E hr, sem_body hf g⟩
  obtain ⟨W, O, sl, en, g⟩ := g
  rcases hf sl with e | ⟨hl, e⟩
  · rw [e] at g; exact g.elim
  · have lenV : sl.length = vs.length := by rw [en.len, List.length_map]
    omega
end
end PB
end

section
set_option Elab.async false
set_option linter.all false
set_option maxRecDepth 100000
set_option maxHeartbeats 4000000
/-! Sound33: a lambda without parameters, handed to a def that tries it. -/
namespace PB
open PySem PySem.Spec PyProof.Rows L2
section
variable {K : PySem.W.Frag} {TB : List (Addr × Str)} {C : CT} {Wx : WX}
variable {H H' H0 H1 H2 : Hp} {W W' W1 : Addr → Prop} {O O' O0 O1 O2 : OA} {ρ ρ' : Env} {σ σ' : L2.St}
theorem tup_nt {o : HO} (h : ∃ xs, o = .tup xs ∨ ∃ ob, o = .frz ob (.tup xs)) : nt o := fun ps z => by
  subst z
  obtain ⟨xs, h | ⟨ob, h⟩⟩ := h <;> cases h
/-- all but the tables stays -/
def KeepN (H H' : Hp) : Prop := ∀ b o, H b = some o → nt o → H' b = some o
theorem KeepN.trans (a : KeepN H H1) (b : KeepN H1 H2) : KeepN H H2 := fun c o e z => b c o (a c o e z) z
theorem Rep.keepN {N : Addr → Prop} {t : T} {v : V} (k : KeepN H H') (r : Rep K H N t v) : Rep K H' N t v := r.keep (fun b o e _ z => k b o e z) (fun b o e h => k b o e (tup_nt h)) (fun _ q => .inl q)
theorem OwnRep.keepN {N : Addr → Prop} {t : T} {a : Addr} (k : KeepN H H') (h : OwnRep K H N t a) : OwnRep K H' N t a := by
  rcases h with ⟨ts, vs, e, h, r⟩ | ⟨ts, vs, e, h, r⟩ | ⟨ts, vs, e, h, r⟩
  · exact .inl ⟨ts, vs, e, k _ _ h (fun _ z => by cases z), r.keep (fun b o e _ z => k b o e z) (fun b o e h => k b o e (tup_nt h)) (fun _ q => .inl q)⟩
  · exact .inr (.inl ⟨ts, vs, e, k _ _ h (fun _ z => by cases z), r.keep (fun b o e _ z => k b o e z) (fun b o e h => k b o e (tup_nt h)) (fun _ q => .inl q)⟩)
  · exact .inr (.inr ⟨ts, vs, e, k _ _ h (fun _ z => by cases z), r⟩)
theorem EnvRep.keepN (k : KeepN H H') (t : LamX.Tabs TB H') (h : EnvRep K TB H W O σ ρ) : EnvRep K TB H' W O σ ρ := by
  refine ⟨h.len, fun i => ?_, h.inj, h.out, fun a w => ?_, t⟩
  · have q := h.sl i
    revert q
    cases slotAt ρ i with
    | no => exact id
    | sh t => rintro ⟨a, x, b, c⟩; exact ⟨a, x, b, c.keepN k⟩
    | fz t => rintro ⟨a, x, b, c⟩; exact ⟨a, x, b, c.keepN k⟩
    | ow bb t => rintro ⟨x, a, b, c⟩; exact ⟨x, a, b, c.keepN k⟩
    | le t => rintro ⟨x, a, b, c⟩; exact ⟨x, a, b, c.keepN k⟩
  · obtain ⟨o, e, z⟩ := h.wt a w
    exact ⟨o, k a o e z, z⟩
theorem hideO_len : ∀ ρ : Env, (hideO ρ).length = ρ.length
  | [] => rfl
  | s :: r => congrArg (· + 1) (hideO_len r)
theorem hideO_at : ∀ (ρ : Env) (i : Nat), slotAt (hideO ρ) i = hide1 (slotAt ρ i)
  | [], i => rfl
  | s :: r, 0 => rfl
  | s :: r, i + 1 => hideO_at r i
/-- own things hidden: they are barred -/
theorem EnvRep.hide (h : EnvRep K TB H W O σ ρ) : EnvRep K TB H (NG W O) (fun _ => none) σ (hideO ρ) := by
  refine ⟨by rw [hideO_len]; exact h.len, fun i => ?_, fun i j a e => (by cases e), fun i a e => (by cases e), fun a w => h.ngtN w, h.tab⟩
  rw [hideO_at]
  have sub : ∀ b, NG (NG W O) (fun _ => none) b → NG W O b := fun b q => q.elim id fun ⟨i, z⟩ => by cases z
  have q := h.sl i
  revert q
  cases slotAt ρ i with
  | no => exact fun _ => rfl
  | sh t => rintro ⟨a, x, b, c⟩; exact ⟨rfl, x, b, c.weak sub⟩
  | fz t => rintro ⟨a, x, b, c⟩; exact ⟨rfl, x, b, c.weak sub⟩
  | ow bb t => exact fun _ => rfl
  | le t => exact fun _ => rfl
theorem EnvRep.nos {n : Nat} (wt : ∀ a, W a → ∃ o, H a = some o ∧ nt o) (t : LamX.Tabs TB H) (hl : σ.length = n) : EnvRep K TB H W (fun _ => none) σ (PB.nos n) :=
  ⟨by rw [nos_len, hl], fun i => (by rw [slotAt_nos]; rfl), fun i j a e => (by cases e), fun i a e => (by cases e), wt, t⟩
theorem allMay_nos : ∀ n, allMay (PB.nos n) = true
  | 0 => rfl
  | n + 1 => allMay_nos n
/-! ### the reading -/
def DZ (Q : VK) : Ends := { nx := fun _ H' => Q .non H', rt := Q }
def DM (K : PySem.W.Frag) (TB : List (Addr × Str)) (C : CT) (b : ES) (Q : VK) : Ends := { DZ Q with nx := tS K TB C wF b (DZ Q) }
/-- what the def makes of the lambda's reading -/
def TTm (K : PySem.W.Frag) (TB : List (Addr × Str)) (C : CT) (n : Nat) (w : Ends → WX) (b : ES) : (XK → Hp → VK → Prop) → Hp → VK → Prop := fun tl H Q =>
  tl (fun cls d H' => ∀ σ' : L2.St, σ'.length = n → w (DM K TB C b Q) cls d σ' H') H (fun _ H' => ∀ σ' : L2.St, σ'.length = n → tS K TB C wF b (DZ Q) σ' H')
theorem sem_lam {n : Nat} {h : EH} {b : ES} {w : Ends → WX} {re : EV} {Q : VK} (hh : hSem K TB C wF w h) (g : tE K TB C Wx (lamK (metK n h b) re) σ H Q) :
    LamX.tLam TB (TTm K TB C n w b) (fun E => tE K TB C (fun cls d _ H' => E cls d H') re) σ H Q := by
  obtain ⟨W, O, ρ, en, g⟩ := g
  refine ⟨en.tab, fun H1 ex tb => ?_⟩
  have kp : KeepN H H1 := fun b o e z => ex b o e z
  have en1 := (en.keepN kp tb).hide
  have wt1 : ∀ a, NG W O a → ∃ o, H1 a = some o ∧ nt o := en1.wt
  -- the run of what is left
  have fin : ∀ (r : R Flow) (H2 : Hp) (σ2 : L2.St) (D : Ends) (Nw : Addr → Prop), D.rt = Q → KeepN H H2 → Go TB C Wx (kdV K TB σ) H W O ρ (ofRc ρ (retOnly r)) Q →
      SGo K TB C wF no1 H2 (NG W O) (fun _ => none) (PB.nos n) σ2 r (FG K TB Nw (NG W O) D) := by
    intro r H2 σ2 D Nw hD k2 g
    cases r with
    | bad => exact g
    | exc c x => exact g.elim
    | ok fl ρ2 =>
      cases fl with
      | next => exact g.elim
      | ret t k =>
        cases k with
        | f => exact g.elim
        | p i => exact g.elim
        | s =>
          intro σ3 H3 O3 sp en3 v vp
          rw [hD]
          have k3 : KeepN H H3 := k2.trans fun b o e z => sp.keep b o e (fun ⟨_, _, _, z, _⟩ => by cases z) z
          refine g v H3 O ⟨fun _ _ e => e, fun b o e _ z => k3 b o e z, fun b o e z => ⟨o, k3 b o e z, z⟩, fun _ e => e, fun _ _ t e => ⟨t, e⟩, fun _ e => e, fun _ _ e => ⟨e, rfl⟩⟩ ⟨?_, en.keepN k3 en3.tab⟩
          exact vp.1.weak fun b q => .inl q
  refine ⟨NG W O, fun _ => none, hideO ρ, en1, ?_⟩
  have g : Go TB C Wx (kdV K TB σ) H W O ρ (ofRc ρ (metK n h b (asHook (re (hideO ρ))))) Q := g
  cases er : re (hideO ρ) with
  | bad => rw [er] at g; exact g.elim
  | ok x ρ1 =>
    rw [er] at g
    intro v H2 O2 p vp σ' hl
    have g2 : Go TB C Wx (kdV K TB σ) H W O ρ (ofRc ρ (retOnly (b (PB.nos n)))) Q := by
      obtain ⟨t, k⟩ := x
      cases k with
      | s => exact g
      | f => exact g
      | p i => exact g.elim
    have k2 : KeepN H1 H2 := fun b o e z => p.keep b o e (fun ⟨_, _, _, z, _⟩ => by cases z) z
    have en2 : EnvRep K TB H2 (NG W O) (fun _ => none) σ' (PB.nos n) := .nos (fun a w => by
      obtain ⟨o, e, z⟩ := wt1 a w
      exact ⟨o, k2 a o e z, z⟩) (VPost.env vp).tab hl
    exact ⟨NG W O, fun _ => none, PB.nos n, en2, fin _ H2 σ' (DZ Q) _ rfl (kp.trans k2) g2⟩
  | exc c x =>
    rw [er] at g
    intro cls d σx H2 xp σ' hl
    have g2 : Go TB C Wx (kdV K TB σ) H W O ρ (ofRc ρ (retOnly (h c x (PB.nos n)))) Q := g
    have en0 : EnvRep K TB H1 (NG W O) (fun _ => none) (List.replicate n none) (PB.nos n) := .nos wt1 tb (by simp)
    refine hh (DM K TB C b Q) c x cls d H1 (NG W O) (fun _ => none) (PB.nos n) (List.replicate n none) σ' H2 en0 (allMay_nos n) ⟨xp.cls, xp.pay, fun b o e _ z => xp.keep b o e (fun ⟨_, _, _, z, _⟩ => by cases z) z, xp.tab, xp.per⟩ (by rw [hl]; simp) ?_
    rw [nos_len]
    exact fin _ H1 _ _ _ rfl kp g2
end
/-! ### the def -/
theorem met_gives {X : Cx} {TB : List (Addr × Str)} {C : CT} {Ng : List Str} {x a q : Str} {sg : Scope} {g : Addr} {cdg : Value} {n : Nat} {p1 p2 p3 p4 : Pos} {h₀ : ExceptHandler} {hds : List ExceptHandler} {sts : List Stmt} {w : Ends → WX} {b : ES} (hn : Ng.length = n)
    (hh : ∀ (s : Shared) (H : Hp), HOk (cxOf C8.CX0 X.prog X.w X.K X.mg X.base Ng x sg g cdg X.A X.stack s H C8.E0).nox (h₀ :: hds) w)
    (hb : ∀ (s : Shared) (H : Hp), sSs (cxOf C8.CX0 X.prog X.w X.K X.mg X.base Ng x sg g cdg X.A X.stack s H C8.E0).nox TB C wF sts b) :
    LamX.GivesTo X Ng x sg g cdg (.Try [.Expr (.Call (.Name a p1) [] [] p2) p3] (h₀ :: hds) [] [] p4 :: sts) a q (TTm X.K TB C n w b) := by
  intro f c' s H Q tl act hc h
  refine ⟨_, pss_cons (ps_try_ok (X := (cxOf C8.CX0 X.prog X.w X.K X.mg X.base Ng x sg g cdg X.A X.stack s H C8.E0).nox)
      (tb := fun W D σ H => ∃ (E : XK) (P : Hp → Prop), (∀ cls d σ' H', E cls d H' → W cls d σ' H') ∧ σ[0]? = some (some (.ref f)) ∧ H c' = some (LamX.CodeO c' q) ∧ tl E H (fun _ H' => P H') ∧ ∀ σ' H', σ'.length = n → P H' → D.nx σ' H')
      (w := fun D cls d σ' H' => σ'.length = n → w D cls d σ' H') rfl rfl (fun W pn xe tk _ => ?_) (fun pins D a cls d σ H G t s x hw => hh _ _ pins D a cls d σ H G t s x (hw (x.inv.len.trans hn)))) (hb s H), ?_⟩
  · refine ⟨fun pins s' σ H' D I h' => ?_⟩
    obtain ⟨E, P, hW, h1, h2, h3, m⟩ := h'
    have hp := act W pn xe E p1 p2 tk hW
    · have hq := pss_one (ps_expr (pos := p3) hp)
      refine wpAny_mono (hq.run pins s' σ H' { D with nx := fun _ H2 => P H2 } I ⟨h1, h2, h3⟩) (fun fl s2 q => ?_) fun _ _ z => z
      cases fl with
      | next =>
        obtain ⟨σ2, H2, J, q⟩ := q
        exact ⟨σ2, H2, J, m σ2 H2 (J.len.trans hn) q⟩
      | ret u => exact q
      | brk => exact q
      | cont => exact q
  · exact ⟨fun cls d H' => ∀ σ' : L2.St, σ'.length = n → w (DM X.K TB C b Q) cls d σ' H', fun H' => ∀ σ' : L2.St, σ'.length = n → tS X.K TB C wF b (DZ Q) σ' H', fun cls d σ' H' e hl => e σ' hl, rfl, hc, h, fun σ' H' hl e => e σ' hl⟩
end PB
end

section
set_option Elab.async false
set_option linter.all false
set_option maxRecDepth 100000
set_option maxHeartbeats 4000000
/-! Sound34: chained comparisons, packed arguments, classes that are raised. -/
namespace PB
open PySem PySem.Spec PyProof.Rows L2
section
variable {X : Cx} {TB : List (Addr × Str)} {C : CT} {Wx : WX} {a b c : Expr} {ra rb rc : EV} {pos : Pos}
theorem r_chain (hu : X.A.units + 90 < cLine) (o o' : CO) (hm : lastMarks [coOf o, coOf o'] [b, c] = false) (ha : PE X a (tE X.K TB C Wx ra)) (hb : PE X b (tE X.K TB C Wx rb)) (hc : PE X c (tE X.K TB C Wx rc)) : PE X (.Compare a [coOf o, coOf o'] [b, c] pos) (tE X.K TB C Wx (cmp2K o o' ra rb rc)) := by
  refine (pe_chain (ok_cmp hu o) (ok_cmp hu o') ha hb hc hm).mono fun σ H Q g => ?_
  refine two g fun W O ρ x y v u H2 en rx ry g => ?_
  have g : Go TB C Wx (kdV X.K TB σ) H2 W O ρ (cmp2a o o' rc (val ρ x) ρ (val ρ y)) Q := g
  cases ey : val ρ y with
  | int j =>
    rw [ey] at g ry
    have eu := ry.int
    have g : Go TB C Wx (kdV X.K TB σ) H2 W O ρ (cmp2b o' rc j ρ (cmp1 o (val ρ x) (.int j))) Q := g
    cases e1 : cmp1 o (val ρ x) (.int j) with
    | none => rw [e1] at g; exact g.elim
    | some r =>
      rw [e1] at g
      have g : Go TB C Wx (kdV X.K TB σ) H2 W O ρ (cond r ((rc ρ).bind fun z ρ => okB ρ (cmp1 o' (.int j) (val ρ z))) (.ok ⟨.bl false, .s⟩ ρ)) Q := g
      refine ⟨_, _, _, r, rx, ry, e1, r, rfl, ?_⟩
      cases r with
      | false => exact Go.resB (C := C) (Wx := Wx) en g
      | true =>
        show tE X.K TB C Wx rc σ H2 _
        have h : tR TB C Wx (kdV X.K TB σ) (fun ρ => (rc ρ).bind fun z ρ => okB ρ (cmp1 o' (.int j) (val ρ z))) H2 Q := ⟨W, O, ρ, en, g⟩
        refine one h fun W3 O3 ρ3 z w H3 en3 rz g3 => ?_
        obtain ⟨b', e2, q⟩ := Go.okB en3 g3
        subst eu
        exact ⟨_, .int j, _, b', .inl (.int j), rz, e2, q⟩
  | _ => rw [ey] at g; exact g.elim
end
/-! ### a def with packed rest arguments -/
section
variable {X : Cx} {TB : List (Addr × Str)} {C : CT} {Wx : WX} {CX : CXT} {k : Nat} {f : Addr} {fd : FuncData} {ps : List Str} {x : Str} {e : Expr} {es : List Expr} {p pos : Pos} {sp : Sp} {E : L2.St → XK}
/-- its promise by a packed tuple -/
def spV (K : PySem.W.Frag) (TB : List (Addr × Str)) (C : CT) (n : Nat) (f : Env → Rc) : Sp := fun vs H Q E => ∃ ws rest, vs = ws ++ rest ∧ ws.length = n ∧ rest.length ≤ sizeLine ∧ ∀ p, H p = Option.none → spF K TB C f (ws ++ [V.ref p]) (upd H p (.tup rest)) Q E
theorem pe_callR {t : TA} (F : FnR X.prog X.w X.K X.mg X.base CX k f sp) (hr : Room k X.A) (hg : Gl X x) (hm : X.mg x = some (.ref f)) (hk : PySem.W.keepIn X.K (.ref f) = true) (hx : ∀ σ, PassesAt CX X σ (E σ)) (ha : PA X (e :: es) t)
    (hdb : (x == ("__debug__" : Str)) = false) (he : starEach (e :: es) X.env = (false, eval e X.env) :: starEach es X.env) (hpl : (backTo pos (starEach es X.env)).any (·.1) = false) : PE X (.Call (.Name x p) (e :: es) [] pos) (tCallS sp E t) := by
  constructor
  intro pins s σ H Q I h
  apply wpAny_Call_Name_kw
  apply ld_glob I hg hm _ hdb
  apply PySem.W.callWith_K (h₀ := X.base) I.ok.mod.kin hk _ he hpl
  apply thn (ha.run pos pins s σ H _ I h)
  rintro us s1 ⟨vs, H1, I1, r, q⟩
  refine ⟨I1.kIn, wpAny_call (codeAny_mono (F X.A X.stack s1 H1 us vs Q (E σ) hr I1.env0 r q) ?_)⟩
  rintro (e | fl) s' hq
  · first
      | exact hx σ pins H1 s1 _ s' I1 hq
      | (cases e <;> first | exact hq.elim | exact I1.after hq)
  · first
      | exact hx σ pins H1 s1 _ s' I1 hq
      | (cases fl <;> first | exact hq.elim | exact I1.after hq)
theorem r_callv {fn : Env → Rc} {rl : EVs} {n : Nat} (F : FnR X.prog X.w X.K X.mg X.base CX k f (spV X.K TB C n fn)) (hr : Room k X.A) (hg : Gl X x) (hm : X.mg x = some (.ref f)) (hk : PySem.W.keepIn X.K (.ref f) = true)
    (hx : ∀ σ, PassesAt CX X σ (fun cls d H' => Wx cls d σ H')) (ha : PA X (e :: es) (tA X.K TB C Wx rl)) (hdb : (x == ("__debug__" : Str)) = false)
    (he : starEach (e :: es) X.env = (false, eval e X.env) :: starEach es X.env) (hpl : (backTo pos (starEach es X.env)).any (·.1) = false) : PE X (.Call (.Name x p) (e :: es) [] pos) (tE X.K TB C Wx (callvK fn n rl)) :=
  (pe_callR (E := fun σ cls d H' => Wx cls d σ H') F hr hg hm hk hx ha hdb he hpl).mono fun σ H Q g => sem_callv g
/-- such a def over the head's datum -/
theorem fn_okV {P : Program} {w : World} {K : PySem.W.Frag} {mg : Str → Option Value} {base : Heap} {qual : Str} {params : Arguments} {body : List Stmt} {scope : Scope} {kws : List (Str × V)} {pv : Str}
    {N : List Str} {fn : Env → Rc} {r : ES} {nl : Nat} (F : FunD K x qual params body scope [] kws f fd) (S : FnScope N (ps ++ [pv]) scope) (hCX : StX.CXUp CX)
    (hbn : ∀ (kV doc pm : Value) (an : Option Addr) (cdv ct : Value) (us rest : List Value), us.length = ps.length → bindArgs (PySem.W.fnOf x qual params body scope .none kV doc pm an cdv ct) ⟨us ++ rest, []⟩ = (newTuple rest >>= fun t => pure (ps.zip us ++ [(pv, t)])))
    (hf : ∀ sl, fn sl = .bad ∨ (sl.length + nl = N.length ∧ fn sl = fin sl (r (sl ++ nos nl))))
    (hb : ∀ (cdv : Value) (A : Around) (outer : List PySem.Env) (s : Shared) (H : Hp) (E : XK), Room k (A.deeper (envOfC qual scope s.heap.objs.size f cdv)) → PSs (cxOf CX P w K mg base N qual scope f cdv A outer s H E) body (tS K TB C (fun cls d _ H' => E cls d H') r)) :
    FnR P w K mg base CX (k + 1) f (spV K TB C ps.length fn) := by
  obtain ⟨oc, od, dV, kV, doc, pm, an, cdv, ct, osl, rfl, lk, hcd, hD, _⟩ := F.ex
  have hdv : dV = .none := by
    rcases hD with ⟨_, e⟩ | ⟨e, _⟩
    · exact e
    · exact absurd rfl e
  subst hdv
  exact StX.fn_star (sp := spF K TB C fn) lk hcd S hCX (hbn _ _ _ _ _ _) fun A outer s H vs Q E hr h => ⟨_, hb cdv A outer s H E hr, sem_body hf h⟩
end
end PB
end

section
set_option Elab.async false
set_option linter.all false
set_option maxRecDepth 100000
set_option maxHeartbeats 4000000
/-! Sound35: max(.., default=0). -/
namespace PB
open PySem PySem.Spec PyProof.Rows L2
theorem maxI_foldl : ∀ (l : List Int) (m : Int), l.foldl max m = maxI m l
  | [], m => rfl
  | x :: r, m => by
    show r.foldl max (max m x) = maxI (cond (iLt m x) x m) r
    rw [maxI_foldl r]
    congr 1
    rw [iLt_eq]
    by_cases h : m < x
    · rw [decide_eq_true h]; show max m x = x; omega
    · rw [decide_eq_false h]; show max m x = m; omega
theorem ints_reads {h : Heap} : ∀ {vs : List Value} {ns : List Int}, IntsAre vs ns → ∃ as, ReadsAll h vs (ns.map .int) as := by
  intro vs ns hi
  induction hi with
  | nil => exact ⟨[], .nil⟩
  | cons i t _ ih =>
    obtain ⟨as, r⟩ := ih
    exact ⟨_, .cons (.int i t) r⟩
theorem ints_alike (ns : List Int) : PySem.W.AlikeAll (ns.map PyData.int) := by
  constructor
  · intro x hx y hy
    obtain ⟨i, _, rfl⟩ := List.mem_map.mp hx
    obtain ⟨j, _, rfl⟩ := List.mem_map.mp hy
    rfl
  · intro x hx
    obtain ⟨i, _, rfl⟩ := List.mem_map.mp hx
    nofun
section
variable {X : Cx} {TB : List (Addr × Str)} {C : CT} {Wx : WX} {e : Expr} {es : List Expr} {re : EV} {p kp kq pos : Pos} {jj : Nat}
theorem ok_max0 (hc : X.calm = true) (hu : X.A.units + 2 < cLine) : CallRK X (.builtin "max") ["default"] (fun xs zs H Q => zs = [V.int 0] ∧ rB X.K max0B xs H Q) := by
  rintro pins s σ H vs zs us ws Q I r rz ⟨ez, N, ts, y, hr, eb, q⟩
  subst ez
  cases rz with
  | cons rd rn =>
    cases rn
    obtain ⟨tk0, rfl⟩ := rd
    have fin : ∀ (m : Int), y = ⟨.int m, .s⟩ → Q (.int m) H := fun m ey => by
      subst ey
      exact q.sh (.int m)
    unfold max0B at eb
    split at eb
    · cases eb
      obtain ⟨v, rfl, hx⟩ := hr.one
      obtain ⟨a, xs, rfl, hl, ra⟩ := hx.lst
      cases ra
      obtain ⟨its, rv, pl, _⟩ := I.list (SqL.of hl)
      rw [Vals.ref1 r]
      refine PySem.W.max_list_default (xs := []) (I.ok.hd hc) pl.isList (as := []) ?_ ⟨fun x m => (by cases m), fun x m => by cases m⟩ ?_ (fun _ h' tk hk => ⟨.int 0, H, I.kept hk, ⟨_, rfl⟩, fin 0 rfl⟩) fun y ys i v h' tk bs e => by cases e
      · cases rv; exact .nil
      · show X.A.units + 1 + 0 < cLine; omega
    · obtain ⟨ns, e1, e2⟩ := optBind_some eb
      obtain ⟨v, rfl, hx⟩ := hr.one
      obtain ⟨a, xs, rfl, hl, ra⟩ := hx.lst
      have e1 := allInts_some e1
      subst e1
      have ev := ra.ints
      subst ev
      obtain ⟨its, rv, pl, _⟩ := I.list (SqL.of hl)
      rw [Vals.ref1 r]
      obtain ⟨as, rs⟩ := ints_reads (h := s.heap) rv.ints
      refine PySem.W.max_list_default (xs := ns.map .int) (I.ok.hd hc) pl.isList (as := as) (by simpa using rs) (ints_alike ns) ?_ (fun h0 h' tk hk => ?_) fun y ys i v h' tk bs e hi rd hk => ?_
      · rw [depthAll_ints]; show X.A.units + 1 + 0 < cLine; omega
      · have : ns = [] := List.map_eq_nil_iff.mp h0
        subst this
        cases e2
      · cases ns with
        | nil => cases e
        | cons n r2 =>
          cases e
          rw [PySem.W.maxD_ints, maxI_foldl] at rd
          cases rd with
          | int m t =>
            cases e2
            exact ⟨.int _, H, I.kept hk, ⟨_, rfl⟩, fin _ rfl⟩
    · cases eb
theorem r_max0 {rl : EVs} (hc : X.calm = true) (hu : X.A.units + 2 < cLine) (hg : Gl X "max") (hm : X.mg "max" = none) (ha : PA X (e :: es) (tA X.K TB C Wx rl))
    (he : backTo pos (starEach (e :: es) X.env) = (false, eval e X.env) :: backTo pos (starEach es X.env)) (hpl : (backTo pos (starEach (e :: es) X.env)).any (·.1) = false) :
    PE X (.Call (.Name "max" p) (e :: es) [⟨some "default", .Constant (.int 0) jj kq, kp⟩] pos) (tE X.K TB C Wx (bltK .max0 rl)) :=
  (pe_callBK (ok_max0 hc hu) hg hm (by rfl) ha (pk_cons pe_int pk_nil) (by decide) (by decide) he hpl).mono fun σ H Q g => by
    refine sevl g fun Nw W O ρ l vs fr H1 vp g => ?_
    obtain ⟨r, er, q⟩ := Go.ofOpt vp.env0 g
    exact ⟨rfl, _, _, r, vp.reads, er, q⟩
end
end PB
end

section
set_option Elab.async false
set_option linter.all false
set_option maxRecDepth 100000
set_option maxHeartbeats 4000000
/-! Sound36: a comprehension over the items of a dict of its own. -/
namespace PB
open PySem PySem.Spec PyProof.Rows L2
section
variable {K : PySem.W.Frag} {TB : List (Addr × Str)} {C : CT} {Wx : WX}
variable {H H' H1 : Hp} {W W1 : Addr → Prop} {O O' O1 : OA} {ρ ρ' ρ1 : Env} {σ : L2.St} {d : Addr} {ks : List (Key × V)} {kvs : List (T × T)} {od : Obj} {i : Nat} {b : Bool}
theorem itemsL_at : ∀ (l : List (T × T)) (j : Nat) (t : T), (itemsL l)[j]? = some t → ∃ p, l[j]? = some p ∧ t = .tup [p.1, p.2]
  | [], j, t, h => by simp [itemsL] at h
  | p :: r, 0, t, h => by
    have h : some (T.tup [p.1, p.2]) = some t := by simpa [itemsL] using h
    cases h
    exact ⟨p, rfl, rfl⟩
  | p :: r, j + 1, t, h => by
    have h : (itemsL r)[j]? = some t := by simpa [itemsL] using h
    obtain ⟨q, e1, e2⟩ := itemsL_at r j t h
    exact ⟨q, by simpa using e1, e2⟩
theorem itemsL_len : ∀ l : List (T × T), (itemsL l).length = l.length
  | [] => rfl
  | _ :: r => congrArg (· + 1) (itemsL_len r)
theorem RepKV.at {N : Addr → Prop} {kvs : List (T × T)} {ks : List (Key × V)} (h : RepKV K H N kvs ks) : ∀ {j : Nat} {p : T × T}, kvs[j]? = some p → ∃ c v, ks[j]? = some (c, v) ∧ keyOf p.1 = some c ∧ Rep K H N p.2 v := by
  induction kvs generalizing ks with
  | nil => intro j p e; simp at e
  | cons q r ih =>
    cases h with
    | cons a b c =>
      intro j p e
      cases j with
      | zero => simp at e; subst e; exact ⟨_, _, rfl, a, b⟩
      | succ j => exact ih c (by simpa using e)
theorem key_rep {N : Addr → Prop} {k : T} {c : Key} (h : keyOf k = some c) : Rep K H N k (kV c) := by
  cases k with
  | int z => cases h; exact .int z
  | str s => cases h; exact .str s
  | _ => cases h
theorem ItOk.items {B N : Addr → Prop} (hB : ∀ b, B b → N b) (h : H d = some (.frz od (.dK ks))) (na : ¬ B d) (r : RepKV K H N kvs ks) : ItOk K H B N (itemsL kvs) (Iti d od ks) := by
  intro H' N' k kt hn
  have h' : H' d = some (.frz od (.dK ks)) := k _ _ h na (fun _ z => by cases z)
  have r' : RepKV K H' N' kvs ks := r.keep (fun b o e n z => k b o e (fun q => n (hB b q)) z) kt hn
  refine ⟨fun j hj => ⟨h', by rw [itemsL_len, r.len] at hj; exact hj⟩, fun j t e => ?_⟩
  obtain ⟨p, e1, e2⟩ := itemsL_at _ _ _ e
  subst e2
  obtain ⟨c, v, e3, e4, rv⟩ := r'.at e1
  refine ⟨⟨h', (List.getElem?_eq_some_iff.mp e3).1⟩, ?_⟩
  rintro x H'' ⟨T, c', v', f1, f2, f3, f4⟩
  subst f2 f4
  rw [e3] at f1
  cases f1
  exact ⟨Grow.upd f3, .tup (SqT.of upd_same) (.cons (key_rep e4) (.cons (rv.grow (Grow.upd f3)) .nil))⟩
theorem frz_tup {o : HO} (e : o = .frz od (.dK ks)) (h : ∃ xs, o = .tup xs ∨ ∃ ob, o = .frz ob (.tup xs)) : False := by
  subst e
  obtain ⟨xs, h | ⟨ob, h⟩⟩ := h <;> cases h
mutual
/-- nothing stands for a frozen dict -/
theorem Rep.unfz {N N' : Addr → Prop} (hd : H d = some (.frz od (.dK ks))) (hn : ∀ b, N' b → N b ∨ b = d) : ∀ {t : T} {v : V}, Rep K H N t v → Rep K (upd H d (.dK ks)) N' t v
  | _, _, .non => .non
  | _, _, .bl b => .bl b
  | _, _, .int i => .int i
  | _, _, .str s => .str s
  | _, _, .tup h r => .tup (sqT_keep (fun b o e z => by
      rw [upd_ne fun c => ?_]
      · exact e
      · subst c
        rw [hd] at e
        exact frz_tup (Option.some.inj e).symm z) h) (Reps.unfz hd hn r)
  | _, _, .lst (a := a) h n r => by
    have na : a ≠ d := fun c => by subst c; rw [hd] at h; cases h
    exact .lst (by rw [upd_ne na]; exact h) (fun q => (hn _ q).elim n na) (Reps.unfz hd hn r)
  | _, _, .scrH (a := a) h n => by
    have na : a ≠ d := fun c => by subst c; rw [hd] at h; cases h
    exact .scrH (by rw [upd_ne na]; exact h) (fun q => (hn _ q).elim n na)
  | _, _, .scrK h => .scrK h
  | _, _, .tpd (a := a) h e r => by
    have na : a ≠ d := fun c => by subst c; rw [hd] at h; cases h
    exact .tpd (by rw [upd_ne na]; exact h) e (Reps.unfz hd hn r)
  | _, _, .dct (a := a) h n r => by
    have na : a ≠ d := fun c => by subst c; rw [hd] at h; cases h
    exact .dct (by rw [upd_ne na]; exact h) (fun q => (hn _ q).elim n na) (RepKV.unfz hd hn r)
  | _, _, .dtt (a := a) h n r => by
    have na : a ≠ d := fun c => by subst c; rw [hd] at h; cases h
    exact .dtt (by rw [upd_ne na]; exact h) (fun q => (hn _ q).elim n na) r
theorem Reps.unfz {N N' : Addr → Prop} (hd : H d = some (.frz od (.dK ks))) (hn : ∀ b, N' b → N b ∨ b = d) : ∀ {t : List T} {v : List V}, Reps K H N t v → Reps K (upd H d (.dK ks)) N' t v
  | _, _, .nil => .nil
  | _, _, .cons h r => .cons (Rep.unfz hd hn h) (Reps.unfz hd hn r)
theorem RepKV.unfz {N N' : Addr → Prop} (hd : H d = some (.frz od (.dK ks))) (hn : ∀ b, N' b → N b ∨ b = d) : ∀ {t : List (T × T)} {v : List (Key × V)}, RepKV K H N t v → RepKV K (upd H d (.dK ks)) N' t v
  | _, _, .nil => .nil
  | _, _, .cons c h r => .cons c (Rep.unfz hd hn h) (RepKV.unfz hd hn r)
end
/-- the dict d is out of sight -/
theorem EnvRep.out1 (en : EnvRep K TB H W O σ ρ) (es : slotAt ρ i = .ow b (.dct kvs)) (ea : O i = some d) (hd : H d = some (.dK ks)) : EnvRep K TB (upd H d (.frz od (.dK ks))) W (setO O i none) σ (put ρ i .no) := by
  have hi : i < ρ.length := slot_lt (by rw [es]; nofun)
  have sub : ∀ c, NG W (setO O i none) c → NG W O c := fun c q => by
    rcases q with q | ⟨j, q⟩
    · exact .inl q
    · by_cases z : j = i
      · subst z; rw [setO_same] at q; cases q
      · rw [setO_ne z] at q; exact .inr ⟨j, q⟩
  have nd : NG W O d := .inr ⟨i, ea⟩
  have k : ∀ c o, H c = some o → ¬ NG W O c → nt o → upd H d (.frz od (.dK ks)) c = some o := fun c o e n _ => by rw [upd_ne (show c ≠ d from fun z => n (by rw [z]; exact nd))]; exact e
  have kt : ∀ c o, H c = some o → (∃ xs, o = .tup xs ∨ ∃ ob, o = .frz ob (.tup xs)) → upd H d (.frz od (.dK ks)) c = some o := fun c o e h => by
    rw [upd_ne fun z => ?_]
    · exact e
    · subst z
      rw [hd] at e
      cases e
      obtain ⟨xs, h | ⟨ob, h⟩⟩ := h <;> cases h
  refine en.upd1 (W' := W) rfl (fun j c => ?_) rfl hi (fun _ z => by cases z) (fun j a c q => en.out j a q) (fun a w => ?_) fun p hp => tabs_upd hd (fun _ z => by cases z) (fun _ z => by unfold LamX.CodeO at z; cases z) _ _ (en.tab p hp)
  · have q := en.sl j
    have kr : ∀ {t v}, Rep K H (NG W O) t v → Rep K (upd H d (.frz od (.dK ks))) (NG W (setO O i none)) t v := fun r => r.keep k kt fun c q => .inl (sub c q)
    have ko : ∀ {t a}, O j = some a → OwnRep K H (NG W O) t a → OwnRep K (upd H d (.frz od (.dK ks))) (NG W (setO O i none)) t a := fun {t a} e r => by
      have na : a ≠ d := fun z => c (en.inj j i d (z ▸ e) ea)
      rcases r with ⟨ts, ws, e1, h, r⟩ | ⟨ts, ws, e1, h, r⟩ | ⟨ts, ws, e1, h, r⟩
      · exact .inl ⟨ts, ws, e1, by rw [upd_ne na]; exact h, r.keep k kt fun c q => .inl (sub c q)⟩
      · exact .inr (.inl ⟨ts, ws, e1, by rw [upd_ne na]; exact h, r.keep k kt fun c q => .inl (sub c q)⟩)
      · exact .inr (.inr ⟨ts, ws, e1, by rw [upd_ne na]; exact h, r⟩)
    revert q
    cases slotAt ρ j with
    | no => exact id
    | sh t => rintro ⟨q0, v, ev, r⟩; exact ⟨q0, v, ev, kr r⟩
    | fz t => rintro ⟨q0, v, ev, r⟩; exact ⟨q0, v, ev, kr r⟩
    | ow bb t => rintro ⟨a, q0, ev, r⟩; exact ⟨a, q0, ev, ko q0 r⟩
    | le t => rintro ⟨a, q0, ev, r⟩; exact ⟨a, q0, ev, ko q0 r⟩
  · obtain ⟨o, e, z⟩ := en.wt a w
    have na : a ≠ d := fun c => en.out i a (by rw [c]; exact ea) w
    exact ⟨o, by rw [upd_ne na]; exact e, z⟩
/-- .. and in sight again -/
theorem lock_go {r : R TK} {Q : VK} (en : EnvRep K TB H W O σ ρ) (es : slotAt ρ i = .ow b (.dct kvs)) (ea : O i = some d) (ev : σ[i]? = some (some (.ref d))) (hd : H d = some (.dK ks)) (rk : RepKV K H (NG W O) kvs ks) (g : Go TB C Wx (kdV K TB σ) H W O ρ (relock i b kvs r) Q) :
    Go TB C wF (kdV K TB σ) (upd H d (.frz od (.dK ks))) W (setO O i none) (put ρ i .no) r fun v H' => H' d = some (.frz od (.dK ks)) ∧ Q v (upd H' d (.dK ks)) := by
  have hi : i < ρ.length := slot_lt (by rw [es]; nofun)
  cases r with
  | bad => exact g
  | exc c x => exact g.elim
  | ok x ρ' =>
    obtain ⟨t, k⟩ := x
    cases k with
    | s => exact g.elim
    | p j => exact g.elim
    | f =>
      intro v H' O' p vp
      have g : Go TB C Wx (kdV K TB σ) H W O ρ (.ok ⟨t, .f⟩ (put ρ' i (.ow b (.dct kvs)))) Q := g
      obtain ⟨a, rfl, hnw, ng, own, en'⟩ := vp
      have nO : ¬ Ow (setO O i none) (put ρ i .no) d := fun ⟨j, bb, u, e1, e2⟩ => by
        by_cases c : j = i
        · subst c; rw [setO_same] at e1; cases e1
        · rw [setO_ne c] at e1; exact c (en.inj j i d e1 ea)
      have owE : ∀ c, Ow (setO O i none) (put ρ i .no) c → Ow O ρ c := fun c ⟨j, bb, u, e1, e2⟩ => by
        by_cases z : j = i
        · subst z; rw [setO_same] at e1; cases e1
        · rw [setO_ne z] at e1; rw [slot_put_ne ρ _ (Ne.symm z)] at e2; exact ⟨j, bb, u, e1, e2⟩
      have hd' : H' d = some (.frz od (.dK ks)) := p.keep d _ upd_same nO fun _ z => by cases z
      have na : a ≠ d := fun z => by
        subst z
        rcases hnw with h | h
        · exact h _ upd_same fun _ z => by cases z
        · exact nO h
      have hi' : i < ρ'.length := by have := en'.len; have := en.len; omega
      have oOf : ∀ j c, j ≠ i → O' j = some c → O j = some c := fun j c z e => by
        have := p.own j c e
        rw [setO_ne z] at this
        exact this
      have oi : O' i = none := by
        cases e : O' i with
        | none => rfl
        | some c =>
          have := p.own i c e
          rw [setO_same] at this; cases this
      have dO : ∀ j, O' j ≠ some d := fun j e => by
        by_cases z : j = i
        · subst z; rw [oi] at e; cases e
        · exact z (en.inj j i d (oOf j d z e) ea)
      -- the last heap
      have kp : ∀ c o, H c = some o → ¬ Ow O ρ c → nt o → upd H' d (.dK ks) c = some o := fun c o e n z => by
        have nc : c ≠ d := fun q => n ⟨i, b, _, q ▸ ea, es⟩
        rw [upd_ne nc]
        exact p.keep c o (by rw [upd_ne nc]; exact e) (fun q => n (owE c q)) z
      have post : Post H O ρ (upd H' d (.dK ks)) (setO O' i (some d)) (put ρ' i (.ow b (.dct kvs))) := by
        refine ⟨fun j c e => ?_, kp, fun c o e z => ?_, fun j e => ?_, fun j bb u e => ?_, fun j e => ?_, fun j u e => ?_⟩
        · by_cases z : j = i
          · subst z; rw [setO_same] at e; cases e; exact ea
          · rw [setO_ne z] at e; exact oOf j c z e
        · by_cases c1 : c = d
          · subst c1; exact ⟨_, upd_same, fun _ z => by cases z⟩
          · rw [upd_ne c1]
            exact p.per c o (by rw [upd_ne c1]; exact e) z
        · by_cases z : j = i
          · subst z; rw [slot_put ρ' _ hi']; nofun
          · rw [slot_put_ne ρ' _ (Ne.symm z)]
            exact p.ne j (by rw [slot_put_ne ρ _ (Ne.symm z)]; exact e)
        · by_cases z : j = i
          · subst z; rw [slot_put ρ' _ hi'] at e; cases e; exact ⟨_, es⟩
          · rw [slot_put_ne ρ' _ (Ne.symm z)] at e
            obtain ⟨t0, e1⟩ := p.ows j bb u e
            rw [slot_put_ne ρ _ (Ne.symm z)] at e1
            exact ⟨t0, e1⟩
        · by_cases z : j = i
          · subst z
            rw [slot_put ρ' _ hi']
            rw [es] at e
            cases b
            · cases e
            · rfl
          · rw [slot_put_ne ρ' _ (Ne.symm z)]
            exact p.ms j (by rw [slot_put_ne ρ _ (Ne.symm z)]; exact e)
        · have z : j ≠ i := fun z => by subst z; rw [es] at e; cases e
          obtain ⟨e1, e2⟩ := p.le j u (by rw [slot_put_ne ρ _ (Ne.symm z)]; exact e)
          rw [slot_put_ne ρ' _ (Ne.symm z), setO_ne z]
          rw [setO_ne z] at e2
          exact ⟨e1, e2⟩
      have sub : ∀ c, NG (plus W a) (setO O' i (some d)) c → NG (plus W a) O' c ∨ c = d := fun c q => by
        rcases q with q | ⟨j, q⟩
        · exact .inl (.inl q)
        · by_cases z : j = i
          · subst z; rw [setO_same] at q; cases q; exact .inr rfl
          · rw [setO_ne z] at q; exact .inl (.inr ⟨j, q⟩)
      have nwa : nn H a ∨ Ow O ρ a := by
        rcases hnw with h | h
        · refine .inl fun o e z => h o ?_ z
          rw [upd_ne na]; exact e
        · exact .inr (owE a h)
      refine ⟨hd', g (.ref a) (upd H' d (.dK ks)) (setO O' i (some d)) post ⟨a, rfl, nwa, fun q => ?_, ?_, ?_⟩⟩
      · rcases q with q | ⟨j, q⟩
        · exact ng (.inl q)
        · by_cases z : j = i
          · subst z; rw [setO_same] at q; cases q; exact na rfl
          · rw [setO_ne z] at q; exact ng (.inr ⟨j, q⟩)
      · rcases own with ⟨ts, ws, e1, h, r⟩ | ⟨ts, ws, e1, h, r⟩ | ⟨ts, ws, e1, h, r⟩
        · exact .inl ⟨ts, ws, e1, by rw [upd_ne na]; exact h, r.unfz hd' sub⟩
        · exact .inr (.inl ⟨ts, ws, e1, by rw [upd_ne na]; exact h, r.unfz hd' sub⟩)
        · exact .inr (.inr ⟨ts, ws, e1, by rw [upd_ne na]; exact h, r⟩)
      · refine en'.upd1 (W' := plus W a) rfl (fun j c => ?_) ?_ hi' (fun c e => ?_) (fun j c z q => ?_) (fun c w => ?_) fun p hp => tabs_upd hd' (fun _ z => by cases z) (fun _ z => by unfold LamX.CodeO at z; cases z) _ _ (en'.tab p hp)
        · have q := en'.sl j
          have kr : ∀ {t v}, Rep K H' (NG (plus W a) O') t v → Rep K (upd H' d (.dK ks)) (NG (plus W a) (setO O' i (some d))) t v := fun r => r.unfz hd' sub
          have ko : ∀ {t a0}, O' j = some a0 → OwnRep K H' (NG (plus W a) O') t a0 → OwnRep K (upd H' d (.dK ks)) (NG (plus W a) (setO O' i (some d))) t a0 := fun {t a0} e r => by
            have n0 : a0 ≠ d := fun z => dO j (z ▸ e)
            rcases r with ⟨ts, ws, e1, h, r⟩ | ⟨ts, ws, e1, h, r⟩ | ⟨ts, ws, e1, h, r⟩
            · exact .inl ⟨ts, ws, e1, by rw [upd_ne n0]; exact h, r.unfz hd' sub⟩
            · exact .inr (.inl ⟨ts, ws, e1, by rw [upd_ne n0]; exact h, r.unfz hd' sub⟩)
            · exact .inr (.inr ⟨ts, ws, e1, by rw [upd_ne n0]; exact h, r⟩)
          revert q
          cases slotAt ρ' j with
          | no => exact id
          | sh t => rintro ⟨q0, v, ev, r⟩; exact ⟨q0, v, ev, kr r⟩
          | fz t => rintro ⟨q0, v, ev, r⟩; exact ⟨q0, v, ev, kr r⟩
          | ow bb t => rintro ⟨a, q0, ev, r⟩; exact ⟨a, q0, ev, ko q0 r⟩
          | le t => rintro ⟨a, q0, ev, r⟩; exact ⟨a, q0, ev, ko q0 r⟩
        · refine ⟨d, rfl, ev, .inr (.inl ⟨kvs, ks, rfl, upd_same, rk.keep (fun c o e n z => kp c o e (fun q => n (ow_ng q)) z) (post.tups en) fun c q => ?_⟩)⟩
          rcases q with (q | q) | ⟨j, q⟩
          · exact .inl (.inl q)
          · subst q
            rcases nwa with h | h
            · exact .inr h
            · exact .inl (ow_ng h)
          · exact .inl (.inr ⟨j, post.own j c q⟩)
        · cases e
          refine ⟨?_, fun j z => dO j⟩
          rintro (w | w)
          · exact en.out i d ea w
          · exact na w.symm
        · rintro (w | w)
          · exact en.out j c (oOf j c z q) w
          · subst w; exact ng (.inr ⟨j, q⟩)
        · have nc : c ≠ d := fun z => by
            subst z
            rcases w with w | w
            · exact en.out i c ea w
            · exact na w.symm
          obtain ⟨o, e, z⟩ := en'.wt c w
          exact ⟨o, by rw [upd_ne nc]; exact e, z⟩
/-- [elt for .. in d.items() if ..], d of slot i -/
theorem sem_lockc {own : List Nat} {rt : EA} {rc : Env → R Bool} {re : EV} {Q : VK} (hio : i ∉ own) (g : tE K TB C Wx (lockK i fun kvs => compK own (genK own [] rt (itsK (itemsL kvs)) rc (eltK re))) σ H Q) :
    tLockE (tLc (iItems (tVar i)) (tC K TB own rt) (tT K TB C wF rc) (tE K TB C wF re) own) σ H Q := by
  obtain ⟨W, O, ρ, en, g⟩ := g
  have g : Go TB C Wx (kdV K TB σ) H W O ρ (lock1 i (fun kvs => compK own (genK own [] rt (itsK (itemsL kvs)) rc (eltK re))) ρ (slotAt ρ i)) Q := g
  cases es : slotAt ρ i with
  | ow b t =>
    rw [es] at g
    cases t with
    | dct kvs =>
      obtain ⟨d, ea, ev, own0⟩ := en.ow es
      obtain ⟨ks, hd, rk⟩ := own0.dctE
      have g : Go TB C Wx (kdV K TB σ) H W O ρ (relock i b kvs (compK own (genK own [] rt (itsK (itemsL kvs)) rc (eltK re)) (put ρ i .no))) Q := g
      refine ⟨d, _, hd, True.intro, fun od => ?_⟩
      have g1 := lock_go (od := od) en es ea ev hd rk g
      have en1 := en.out1 (od := od) es ea hd
      refine ⟨.ref d, ev, d, od, ks, rfl, upd_same, ?_⟩
      refine sem_comp1J (Hx := H) en1 g1 (rfl : itsK (itemsL kvs) (PB.wipe own (put ρ i .no)) = .ok (itemsL kvs) (PB.wipe own (put ρ i .no))) Post.refl ⟨_, fun _ q => q, en1.wipeW, ?_, fun _ q => .inl q⟩
      refine .items (fun c q => ?_) upd_same (fun q => ?_) (rk.keep (fun c o e n _ => ?_) (fun c o e h => ?_) fun c q => .inl ?_)
      · rcases q with q | q
        · exact ow_ng (by simpa [lend] using q)
        · exact .inl q
      · rcases q with q | q
        · obtain ⟨j, bb, u, e1, _⟩ := q
          have e1 := (wipeO_some e1).2
          by_cases z : j = i
          · subst z; rw [setO_same] at e1; cases e1
          · rw [setO_ne z] at e1; exact z (en.inj j i d e1 ea)
        · rcases q with q | ⟨j, _, q⟩
          · exact en.out i d ea q
          · by_cases z : j = i
            · subst z; rw [setO_same] at q; cases q
            · rw [setO_ne z] at q; exact z (en.inj j i d q ea)
      · rw [upd_ne (show c ≠ d from fun z => n (by rw [z]; exact .inr ⟨i, ea⟩))]; exact e
      · rw [upd_ne fun z => ?_]
        · exact e
        · subst z
          rw [hd] at e
          cases e
          obtain ⟨xs, h | ⟨ob, h⟩⟩ := h <;> cases h
      · have g2 : ∀ j, setO O i none j = some c → O j = some c := fun j e => by
          by_cases z : j = i
          · subst z; rw [setO_same] at e; cases e
          · rw [setO_ne z] at e; exact e
        rcases q with (q | ⟨j, _, q⟩) | ⟨j, q⟩
        · exact .inl q
        · exact .inr ⟨j, g2 j q⟩
        · exact .inr ⟨j, g2 j (wipeO_some q).2⟩
    | _ => exact g.elim
  | _ => rw [es] at g; exact g.elim
end
end PB
end

section
set_option Elab.async false
set_option linter.all false
set_option maxRecDepth 100000
set_option maxHeartbeats 4000000
/-! Sound37: the rules as a printer of proofs takes them. -/
namespace PB
open PySem PySem.Spec PyProof.Rows L2
/-- what holds of a context all along -/
structure Cxt (X : Cx) (Wx : WX) (k : Nat) : Prop where
  nd : X.N.Nodup
  cm : X.calm = true
  rm : Room k X.A
  tk : Takes X Wx
section
variable {X : Cx} {TB : List (Addr × Str)} {C : CT} {Wx : WX} {k : Nat} {scope : Scope}
theorem Cxt.u90 (c : Cxt X Wx k) : X.A.units + 90 < cLine := by have := c.rm.un; omega
theorem Cxt.u65 (c : Cxt X Wx k) : X.A.units + 65 < cLine := by have := c.rm.un; omega
theorem Cxt.u2 (c : Cxt X Wx k) : X.A.units + 2 < cLine := by have := c.rm.un; omega
theorem Cxt.u1 (c : Cxt X Wx k) : X.A.units + 1 < cLine := by have := c.rm.un; omega
theorem Cxt.blk (c : Cxt X Wx k) (s : Shared) (H : Hp) (e : PySem.Env) (fp : List Addr) : Cxt (X.blk s H scope e fp) wF k := ⟨c.nd, c.cm, c.rm, LamX.takes0⟩
/-- .. in each block -/
theorem q_bk {P : Cx → Prop} (c : Cxt X Wx k) (h : ∀ (s : Shared) (H : Hp) (A : Addr) (cl : List (Str × Addr)) (fp : List Addr), Cxt (X.blk s H scope (compEnvC scope cl A X.env) fp) wF k → P (X.blk s H scope (compEnvC scope cl A X.env) fp)) : Bk X scope P :=
  fun s H A cl fp => h s H A cl fp (c.blk s H _ fp)
theorem cxt_of {P : Program} {w : World} {K : PySem.W.Frag} {mg : Str → Option Value} {base : Heap} {N ps : List Str} {qual : Str} {f : Addr} {cdv : Value} {A : Around} {outer : List PySem.Env} {s : Shared} {H : Hp} {E : XK} (S : FnScope N ps scope) (hr : Room k (A.deeper (envOfC qual scope s.heap.objs.size f cdv))) :
    Cxt (cxOf (L2.CX P w) P w K mg base N qual scope f cdv A outer s H E) (fun cls d _ H' => E cls d H') k :=
  ⟨S.nd, rfl, hr, takes_of rfl rfl rfl rfl⟩
theorem cxt_lam {m : Nat} {A : Around} {outer : List PySem.Env} {s : Shared} {H : Hp} {E : XK} {sc : Scope} {f c' : Addr} (c : Cxt X Wx m) (hr : Room k (A.deeper (LamX.lamEnv X sc s.heap.objs.size f c'))) : Cxt (LamX.lamCx X A outer s H E sc f c') (fun cls d _ H' => E cls d H') k :=
  ⟨c.nd, rfl, hr, takes_of rfl rfl rfl rfl⟩
end
/-- a def of the module as its callers know it -/
structure Cal (P : Program) (w : World) (K : PySem.W.Frag) (mg : Str → Option Value) (base : Heap) (TB : List (Addr × Str)) (C : CT) (k : Nat) (x : Str) (ps : List Str) (fn : Env → Rc) : Prop where
  ex : ∃ (f : Addr) (fd : FuncData), FnOk P w K mg base (L2.CX P w) k f fd ps (spF K TB C fn) ∧ L2.Binds K fd ps [] ∧ mg x = some (.ref f) ∧ PySem.W.keepIn K (.ref f) = true
/-- .. with packed arguments -/
structure CalV (P : Program) (w : World) (K : PySem.W.Frag) (mg : Str → Option Value) (base : Heap) (TB : List (Addr × Str)) (C : CT) (k : Nat) (x : Str) (n : Nat) (fn : Env → Rc) : Prop where
  ex : ∃ (f : Addr), FnR P w K mg base (L2.CX P w) k f (spV K TB C n fn) ∧ mg x = some (.ref f) ∧ PySem.W.keepIn K (.ref f) = true
/-- a class that is raised -/
structure Rai (K : PySem.W.Frag) (mg : Str → Option Value) (C : CT) (x : Str) (n : Nat) : Prop where
  ex : ∃ a : Addr, PySem.W.excIn K a He.veBase "ValueError.__new__" = true ∧ mg x = some (.ref a) ∧ PySem.W.keepIn K (.ref a) = true ∧ PySem.W.subIn K (.ref a) (.type "BaseException") = some true ∧ PySem.W.typeIn K (.ref a) = some (.type "type") ∧ C n = (.ref a, none)
section
variable {X : Cx} {TB : List (Addr × Str)} {C : CT} {Wx : WX} {k j i : Nat} {a b c e : Expr} {es : List Expr} {ra rb rc re : EV} {rl : EVs} {ta tb : Env → R Bool} {pos p pos' : Pos} {x : Str}
/-! names, constants -/
theorem q_v (hN : X.N[i]? = some x := by rfl) (hv : Vis X.env.scope x := by first | exact .inl rfl | exact .inr (.inl rfl) | exact .inr (.inr rfl)) (hd : (x == ("__debug__" : Str)) = false := by decide) (hcd : (x == ("__classdict__" : Str)) = false := by decide) : PE X (.Name x pos) (tE X.K TB C Wx (rdV i)) := r_var hN hv hd hcd
theorem q_p (hN : X.N[i]? = some x := by rfl) (hv : Vis X.env.scope x := by first | exact .inl rfl | exact .inr (.inl rfl) | exact .inr (.inr rfl)) (hd : (x == ("__debug__" : Str)) = false := by decide) (hcd : (x == ("__classdict__" : Str)) = false := by decide) : PE X (.Name x pos) (tE X.K TB C Wx (rdP i)) := r_pk hN hv hd hcd
theorem q_s {z : List Nat} {jj} (h : x = toStr z := by rfl) : PE X (.Constant (.str x) jj pos) (tE X.K TB C Wx (cK (.str z))) := by subst h; exact r_str
theorem q_gi {z : Int} (h : ∃ t, X.mg x = some (.int z t)) (hg : Gl X x := by rfl) (hd : (x == ("__debug__" : Str)) = false := by decide) : PE X (.Name x pos) (tE X.K TB C Wx (cK (.int z))) := by
  obtain ⟨t, hm⟩ := h
  exact r_glob hg hm (v := .int z) ⟨t, rfl⟩ hd fun H N => .int z
theorem q_gs {z : List Nat} {y : Str} (h : ∃ t, X.mg x = some (.str y t)) (hz : y = toStr z := by rfl) (hg : Gl X x := by rfl) (hd : (x == ("__debug__" : Str)) = false := by decide) : PE X (.Name x pos) (tE X.K TB C Wx (cK (.str z))) := by
  obtain ⟨t, hm⟩ := h
  subst hz
  exact r_glob hg hm (v := .str (toStr z)) ⟨t, rfl⟩ hd fun H N => .str z
/-! operators -/
theorem q_op {o : PB.O2} {op : Operator} (ha : PE X a (tE X.K TB C Wx ra)) (hb : PE X b (tE X.K TB C Wx rb)) (ho : op = opOf o := by rfl) : PE X (.BinOp a op b pos) (tE X.K TB C Wx (opK o ra rb)) := by subst ho; exact r_op o ha hb
theorem q_cmp {o : CO} {op : CmpOp} (c : Cxt X Wx k) (ha : PE X a (tE X.K TB C Wx ra)) (hb : PE X b (tE X.K TB C Wx rb)) (ho : op = coOf o := by rfl) (hm : behindInMarks op b = false := by rfl) : PE X (.Compare a [op] [b] pos) (tE X.K TB C Wx (cmpK o ra rb)) := by
  subst ho; exact pe_cmp (r_cmp c.u90 o ha hb) hm
theorem q_tcmp {o : CO} {op : CmpOp} (c : Cxt X Wx k) (ha : PE X a (tE X.K TB C Wx ra)) (hb : PE X b (tE X.K TB C Wx rb)) (ho : op = coOf o := by rfl) (hm : behindInMarks op b = false := by rfl) : PT X (.Compare a [op] [b] pos) (tT X.K TB C Wx (tvK (cmpK o ra rb))) := by
  subst ho; exact r_tcmp (r_cmp c.u90 o ha hb) hm
theorem q_chain {o o' : CO} {op op' : CmpOp} {d : Expr} (c : Cxt X Wx k) (ha : PE X a (tE X.K TB C Wx ra)) (hb : PE X b (tE X.K TB C Wx rb)) (hd : PE X d (tE X.K TB C Wx rc)) (ho : op = coOf o := by rfl) (ho' : op' = coOf o' := by rfl) (hm : lastMarks [op, op'] [b, d] = false := by rfl) :
    PE X (.Compare a [op, op'] [b, d] pos) (tE X.K TB C Wx (cmp2K o o' ra rb rc)) := by subst ho ho'; exact r_chain c.u90 o o' hm ha hb hd
theorem q_tv (ha : PE X a (tE X.K TB C Wx ra)) (hp : ∀ whole, PySem.isTrue a X.env whole = (do let v ← whole; standAt a.pos; holding [v] (truthy v)) := by intro _; rfl) : PT X a (tT X.K TB C Wx (tvK ra)) := r_tv hp ha
theorem q_ix (c : Cxt X Wx k) (ha : PE X a (tE X.K TB C Wx ra)) (hb : PE X b (tE X.K TB C Wx rb)) (hs : PlainIx b := by intro _ _; rfl) : PE X (.Subscript a b pos) (tE X.K TB C Wx (ixK ra rb)) := r_ix c.u1 ha hb hs
theorem q_cons (ha : PE X a (tE X.K TB C Wx ra)) (hr : PA X es (tA X.K TB C Wx rl)) (hs : starEach (a :: es) X.env = (false, eval a X.env) :: starEach es X.env := by rfl) : PA X (a :: es) (tA X.K TB C Wx (consK ra rl)) := r_cons ha hr hs
theorem q_star (ha : PE X a (tE X.K TB C Wx ra)) (hr : PA X es (tA X.K TB C Wx rl)) (hs : starEach (.Starred a p :: es) X.env = (true, eval a X.env) :: starEach es X.env := by rfl) : PA X (.Starred a p :: es) (tA X.K TB C Wx (starK ra rl)) := r_star ha hr hs
/-! calls -/
theorem q_call {ps : List Str} {fn : Env → Rc} (d : Cal X.prog X.w X.K X.mg X.base TB C j x ps fn) (c : Cxt X Wx k) (ha : PA X (e :: es) (tA X.K TB C Wx rl)) (hj : j ≤ k := by decide) (hg : Gl X x := by rfl) (hd : (x == ("__debug__" : Str)) = false := by decide)
    (he : starEach (e :: es) X.env = (false, eval e X.env) :: starEach es X.env := by rfl) (hpl : (backTo pos (starEach es X.env)).any (·.1) = false := by rfl) : PE X (.Call (.Name x p) (e :: es) [] pos) (tE X.K TB C Wx (callK fn rl)) := by
  obtain ⟨f, fd, F, hb, hm, hk⟩ := d.ex
  exact r_call F (c.rm.mono hj) hg hm hk hb (fun σ => passAt c.tk σ) ha hd he hpl
theorem q_callv {n : Nat} {fn : Env → Rc} (d : CalV X.prog X.w X.K X.mg X.base TB C j x n fn) (c : Cxt X Wx k) (ha : PA X (e :: es) (tA X.K TB C Wx rl)) (hj : j ≤ k := by decide) (hg : Gl X x := by rfl) (hd : (x == ("__debug__" : Str)) = false := by decide)
    (he : starEach (e :: es) X.env = (false, eval e X.env) :: starEach es X.env := by rfl) (hpl : (backTo pos (starEach es X.env)).any (·.1) = false := by rfl) : PE X (.Call (.Name x p) (e :: es) [] pos) (tE X.K TB C Wx (callvK fn n rl)) := by
  obtain ⟨f, F, hm, hk⟩ := d.ex
  exact r_callv F (c.rm.mono hj) hg hm hk (fun σ => passAt c.tk σ) ha hd he hpl
theorem q_b {bi : Bi} {id : String} (hc : CallR X (.builtin id) (rB X.K (blt1 bi))) (hm : X.mg x = none) (ha : PA X (e :: es) (tA X.K TB C Wx rl)) (hg : Gl X x := by rfl) (hv : bootBuiltins x = some (.builtin id) := by rfl) (hn : x ≠ "__name__" := by decide) (hdb : (x == ("__debug__" : Str)) = false := by decide)
    (he : starEach (e :: es) X.env = (false, eval e X.env) :: starEach es X.env := by rfl) (hpl : (backTo pos (starEach es X.env)).any (·.1) = false := by rfl) : PE X (.Call (.Name x p) (e :: es) [] pos) (tE X.K TB C Wx (bltK bi rl)) := r_bltB hc hg hm hv ha hn hdb he hpl
theorem q_t {bi : Bi} {ty : String} (hc : CallR X (.type ty) (rB X.K (blt1 bi))) (hm : X.mg x = none) (ha : PA X (e :: es) (tA X.K TB C Wx rl)) (hg : Gl X x := by rfl) (hv : bootBuiltins x = some (.type ty) := by rfl) (hn : x ≠ "__name__" := by decide) (hdb : (x == ("__debug__" : Str)) = false := by decide)
    (he : starEach (e :: es) X.env = (false, eval e X.env) :: starEach es X.env := by rfl) (hpl : (backTo pos (starEach es X.env)).any (·.1) = false := by rfl) : PE X (.Call (.Name x p) (e :: es) [] pos) (tE X.K TB C Wx (bltK bi rl)) := r_bltT hc hg hm hv ha hn hdb he hpl
theorem q_isi {y : Ty} {n : Str} {p2 : Pos} (hm : X.mg x = none) (hm2 : X.mg n = none) (ha : PE X a (tE X.K TB C Wx ra)) (hg : Gl X x := by rfl) (hv : bootBuiltins x = some (.builtin "isinstance") := by rfl) (hn : x ≠ "__name__" := by decide) (hdb : (x == ("__debug__" : Str)) = false := by decide) (hg2 : Gl X n := by rfl) (hv2 : bootBuiltins n = some (.type (tyName y)) := by rfl)
    (hn2 : n ≠ "__name__" := by decide) (hdb2 : (n == ("__debug__" : Str)) = false := by decide) (he : ∀ es, starEach (a :: es) X.env = (false, eval a X.env) :: starEach es X.env := by intro _; rfl) : PE X (.Call (.Name x p) [a, .Name n p2] [] pos) (tE X.K TB C Wx (isiK ra y)) := r_isi hg hm hv hn hdb hg2 hm2 hv2 hn2 hdb2 ha he
theorem q_max0 {kp kq : Pos} {jj : Nat} (c : Cxt X Wx k) (hm : X.mg "max" = none) (ha : PA X (e :: es) (tA X.K TB C Wx rl)) (hg : Gl X "max" := by rfl) (he : backTo pos (starEach (e :: es) X.env) = (false, eval e X.env) :: backTo pos (starEach es X.env) := by rfl) (hpl : (backTo pos (starEach (e :: es) X.env)).any (·.1) = false := by rfl) :
    PE X (.Call (.Name "max" p) (e :: es) [⟨some "default", .Constant (.int 0) jj kq, kp⟩] pos) (tE X.K TB C Wx (bltK .max0 rl)) := r_max0 c.cm c.u2 hg hm ha he hpl
end
/-! methods -/
section
variable {X : Cx} {TB : List (Addr × Str)} {C : CT} {Wx : WX} {k i : Nat} {a e : Expr} {es : List Expr} {ra : EV} {rl : EVs} {apos cpos np : Pos} {x : Str}
theorem q_count (c : Cxt X Wx k) (ho : PE X a (tE X.K TB C Wx ra)) (ha : PA X (e :: es) (tA X.K TB C Wx rl)) (hbase : attributeBase a "count" X.env (eval a X.env) = eval a X.env := by rfl)
    (hfew : ((backTo cpos (starEach (e :: es) X.env)).all (fun x => !x.1) && (backToKw cpos (keywordEach [] X.env)).all (fun x => x.1.isSome) && decide ((e :: es).length + ([] : List Keyword).length + (if ([] : List Keyword).isEmpty then 0 else 1) < 30)) = true := by rfl)
    (hline : (apos.endLine == cpos.line) = true := by rfl) (hs : starEach (e :: es) X.env = (false, eval e X.env) :: starEach es X.env := by rfl) (hplain : (backTo cpos (starEach es X.env)).any (·.1) = false := by rfl) :
    PE X (.Call (.Attribute a "count" apos) (e :: es) [] cpos) (tE X.K TB C Wx (mthK .count ra rl)) := r_mth PySem.F.slot_list_count PySem.F.type_list_count (ok_count c.u65) ho ha hbase hfew hline hs hplain
/-- t.count(x), t a tuple of a display -/
theorem r_tcnt (hu : X.A.units + 65 < cLine) (ho : PE X a (tE X.K TB C Wx ra)) (ha : PA X (e :: es) (tA X.K TB C Wx rl)) (hbase : attributeBase a "count" X.env (eval a X.env) = eval a X.env)
    (hfew : ((backTo cpos (starEach (e :: es) X.env)).all (fun x => !x.1) && (backToKw cpos (keywordEach [] X.env)).all (fun x => x.1.isSome) && decide ((e :: es).length + ([] : List Keyword).length + (if ([] : List Keyword).isEmpty then 0 else 1) < 30)) = true)
    (hline : (apos.endLine == cpos.line) = true) (hs : starEach (e :: es) X.env = (false, eval e X.env) :: starEach es X.env) (hplain : (backTo cpos (starEach es X.env)).any (·.1) = false) :
    PE X (.Call (.Attribute a "count" apos) (e :: es) [] cpos) (tE X.K TB C Wx (tcntK ra rl)) := by
  constructor
  rintro pins s σ H Q I ⟨W, O, ρ, en, g⟩
  have h1 : tE X.K TB C Wx ra σ H fun v H1 => ∃ (ad : Addr) (ob : Obj) (l : List T) (vs : List V), v = .ref ad ∧ H1 ad = some (.frz ob (.tup vs)) ∧ ob.dict = none ∧
      tA X.K TB C Wx rl σ H1 fun ws H2 => ∃ (N : Addr → Prop) (ts : List T) (r : TK), RReps X.K H2 N ts ws ∧ Rep X.K H2 N (.tpd l) (.ref ad) ∧ countT (.tup l) ts = some r ∧ Res X.K H2 N r Q := by
    refine ⟨W, O, ρ, en, Go.first (k := kdV X.K TB σ) g fun x ρ1 v H1 O1 e p vp g1 => ?_⟩
    have vp : VPost X.K TB (nw H O ρ) H1 W O1 σ ρ1 x v := vp
    have g1 : Go TB C Wx (kdV X.K TB σ) H W O ρ ((ra ρ).bind fun y ρ => tcnt rl ρ (raw ρ y)) Q := g
    rw [e] at g1
    have g1 : Go TB C Wx (kdV X.K TB σ) H W O ρ (tcnt rl ρ1 (raw ρ1 x)) Q := g1
    cases er : raw ρ1 x with
    | tpd l =>
      rw [er] at g1
      have hr : Rep X.K H1 (NG W O1) (.tpd l) v := by
        obtain ⟨t, k⟩ := x
        cases k with
        | s => have er : t = .tpd l := er; subst er; exact vp.1
        | f =>
          have er : t = .tpd l := er
          subst er
          obtain ⟨_, _, _, _, ⟨_, _, z, _⟩ | ⟨_, _, z, _⟩ | ⟨_, _, z, _⟩, _⟩ := vp <;> cases z
        | p i =>
          have er : treeOf (slotAt ρ1 i) = .tpd l := er
          obtain ⟨ev, _, en1⟩ := vp
          have q := en1.sl i
          revert q er
          cases slotAt ρ1 i with
          | no => intro er; cases er
          | sh u => rintro er ⟨_, y, e2, r⟩; have er : u = .tpd l := er; subst er; rw [ev] at e2; cases e2; exact r
          | fz u => rintro er ⟨_, y, e2, r⟩; have er : u = .tpd l := er; subst er; rw [ev] at e2; cases e2; exact r
          | ow b u => rintro er ⟨_, _, _, ⟨_, _, z, _⟩ | ⟨_, _, z, _⟩ | ⟨_, _, z, _⟩⟩ <;> (have er : u = .tpd l := er; rw [er] at z; cases z)
          | le u => rintro er ⟨_, _, _, ⟨_, _, z, _⟩ | ⟨_, _, z, _⟩ | ⟨_, _, z, _⟩⟩ <;> (have er : u = .tpd l := er; rw [er] at z; cases z)
      cases hr with
      | tpd hH hd rr =>
        refine ⟨_, _, l, _, rfl, hH, hd, W, O1, ρ1, vp.env, ?_⟩
        have g2 : Go TB C Wx (kdV X.K TB σ) H1 W O1 ρ1 ((rl ρ1).bind fun xs ρ => ofOpt (countT (.tup l) (trees ρ xs)) ρ) Q := Go.shift (r := (rl ρ1).bind fun xs ρ => ofOpt (countT (.tup l) (trees ρ xs)) ρ) g1 p fun _ q => q
        refine Go.first (k := kdL X.K TB σ) g2 fun ls ρ2 ws H2 O2 e2 p2 vp2 g3 => ?_
        obtain ⟨fr, vp2⟩ := vp2
        rw [e2] at g2
        have g2 : Go TB C Wx (kdV X.K TB σ) H1 W O1 ρ1 (ofOpt (countT (.tup l) (trees ρ2 ls)) ρ2) Q := g2
        have g3 : Go TB C Wx (kdV X.K TB σ) H2 W O2 ρ2 (ofOpt (countT (.tup l) (trees ρ2 ls)) ρ2) Q := Go.shift (r := ofOpt (countT (.tup l) (trees ρ2 ls)) ρ2) g2 p2 fun _ q => q
        obtain ⟨r, e3, q⟩ := Go.ofOpt vp2.env0 g3
        exact ⟨_, _, r, vp2.reads, Rep.post p2 vp.env (.tpd hH hd rr), e3, q⟩
    | _ => rw [er] at g1; exact g1.elim
  apply wpAny_Call_method_late hbase hfew hline rfl
  apply thn (ho.run pins s σ H _ I h1)
  rintro v s1 ⟨x, H1, I1, r1, ad, ob, l, vs, rfl, hH, hd, q1⟩
  cases r1
  obtain ⟨go, z, its, rv, ob', go', hc, n, hdt⟩ := I1.hok ad _ hH
  have eo : ob' = ob := by rw [go] at go'; cases go'; rfl
  subst eo
  refine ⟨"tuple", "tuple.count", PySem.F.plainAttrs_tuple, PySem.F.slot_tuple_count, PySem.F.type_tuple_count, ⟨ob', go, hc⟩, fun b eb => by cases eb; exact ⟨ob', go, hd⟩, ?_⟩
  have hA := ha.run cpos pins s1 σ H1 _ I1 q1
  rw [hs] at hA ⊢
  apply Calls.callWith_builtin
  · show (false || (backTo cpos (starEach es X.env)).any (·.1)) = false
    rw [hplain] <;> rfl
  apply Calls.evalArgs_plain
  apply thn hA
  rintro us s2 ⟨ws, H2, I2, r2, N, ts, r, hrs, hrep, hcnt, q⟩
  unfold countT at hcnt
  split at hcnt
  · obtain ⟨l', e0, hcnt⟩ := optBind_some hcnt
    cases e0
    obtain ⟨d1, hcnt⟩ := cond_some hcnt
    obtain ⟨d2, hcnt⟩ := cond_some hcnt
    cases hcnt
    obtain ⟨w, rfl, hw⟩ := hrs.one
    rename_i y _ _
    rw [countIx_eq, Nat.zero_add] at q
    have d3 : T.dataN 21 (.tup l) = true := d2
    have hl := (RRep.of hrep).un.dp d3
    have sl := shaped_of (n := 21) (by decide) d3
    have sd := shaped_of (n := 20) (by decide) d1
    cases r2 with
    | cons ry rt =>
      rename_i uy ut
      cases rt
      obtain ⟨bs, rr1⟩ := Dp.reads I2 (toD y) w uy (hw.dp d1) ry
      have hxs : PyData.canLayAll0 (toDs l) = true := SeqAt.canLay_of_shaped sl
      have hroom : X.A.units + 1 + min (PyData.depthAll (toDs l)) (toD y).depth < cLine := room_in_shaped sd hu
      cases hl with
      | tup hs2 ha2 =>
        obtain ⟨its2, rv2, ⟨⟨cls, dd, data, sls⟩, ho2, hc2, n2, hdt2⟩, hlen2⟩ := I2.tuple hs2
        simp only at hc2 hdt2
        subst hc2 hdt2
        obtain ⟨as, h4⟩ := Dp.readsAll I2 (toDs l) _ its2 ha2 rv2
        have hmap : its2.map (SeqAt.readOf s2.heap) = toDs l := SeqAt.readsAll_map (toDs l) its2 as hxs h4
        refine call_meets PySem.F.slot_tuple_count ⟨_, ho2, rfl⟩ PySem.F.entry_tuple_count (PySem.F.args_tuple_count_2 _ _)
          (SeqAt.tuple_countAt ad its2.toArray n2 dd sls uy (fun u => PyData.eqv (SeqAt.readOf s2.heap u) (toD y))) ⟨ho2, SeqAt.items_eqAt (vs := its2.toArray) (show ReadsAll s2.heap its2.toArray.toList (toDs l) as from h4) rr1 hxs (SeqAt.canLay_of_shaped sd) hroom, ?_⟩
        refine ⟨.int _, H2, I2.tok _, ⟨s2.toks, ?_⟩, q.sh (.int _)⟩
        rw [show its2.toArray.toList = its2 from rfl, countP_reads (f := fun z => PyData.eqv z (toD y)) hmap]
        rfl
  · cases hcnt
theorem q_tcnt (c : Cxt X Wx k) (ho : PE X a (tE X.K TB C Wx ra)) (ha : PA X (e :: es) (tA X.K TB C Wx rl)) (hbase : attributeBase a "count" X.env (eval a X.env) = eval a X.env := by rfl)
    (hfew : ((backTo cpos (starEach (e :: es) X.env)).all (fun x => !x.1) && (backToKw cpos (keywordEach [] X.env)).all (fun x => x.1.isSome) && decide ((e :: es).length + ([] : List Keyword).length + (if ([] : List Keyword).isEmpty then 0 else 1) < 30)) = true := by rfl)
    (hline : (apos.endLine == cpos.line) = true := by rfl) (hs : starEach (e :: es) X.env = (false, eval e X.env) :: starEach es X.env := by rfl) (hplain : (backTo cpos (starEach es X.env)).any (·.1) = false := by rfl) :
    PE X (.Call (.Attribute a "count" apos) (e :: es) [] cpos) (tE X.K TB C Wx (tcntK ra rl)) := r_tcnt c.u65 ho ha hbase hfew hline hs hplain
theorem q_index (c : Cxt X Wx k) (ho : PE X a (tE X.K TB C Wx ra)) (ha : PA X (e :: es) (tA X.K TB C Wx rl)) (hbase : attributeBase a "index" X.env (eval a X.env) = eval a X.env := by rfl)
    (hfew : ((backTo cpos (starEach (e :: es) X.env)).all (fun x => !x.1) && (backToKw cpos (keywordEach [] X.env)).all (fun x => x.1.isSome) && decide ((e :: es).length + ([] : List Keyword).length + (if ([] : List Keyword).isEmpty then 0 else 1) < 30)) = true := by rfl)
    (hline : (apos.endLine == cpos.line) = true := by rfl) (hs : starEach (e :: es) X.env = (false, eval e X.env) :: starEach es X.env := by rfl) (hplain : (backTo cpos (starEach es X.env)).any (·.1) = false := by rfl) :
    PE X (.Call (.Attribute a "index" apos) (e :: es) [] cpos) (tE X.K TB C Wx (mthK .index ra rl)) := r_mth PySem.F.slot_list_index PySem.F.type_list_index (ok_index c.u65) ho ha hbase hfew hline hs hplain
theorem q_append (ha : PA X (e :: es) (tA X.K TB C Wx rl)) (hN : X.N[i]? = some x := by rfl) (hv : Vis X.env.scope x := by first | exact .inl rfl | exact .inr (.inl rfl) | exact .inr (.inr rfl)) (hd : (x == ("__debug__" : Str)) = false := by decide) (hcd : (x == ("__classdict__" : Str)) = false := by decide)
    (hfew : ((backTo cpos (starEach (e :: es) X.env)).all (fun x => !x.1) && (backToKw cpos (keywordEach [] X.env)).all (fun x => x.1.isSome) && decide ((e :: es).length + ([] : List Keyword).length + (if ([] : List Keyword).isEmpty then 0 else 1) < 30)) = true := by rfl)
    (hline : (apos.endLine == cpos.line) = true := by rfl) (hs : starEach (e :: es) X.env = (false, eval e X.env) :: starEach es X.env := by rfl) (hplain : (backTo cpos (starEach es X.env)).any (·.1) = false := by rfl)
    (hbase : attributeBase (.Name x np) "append" X.env (eval (.Name x np) X.env) = eval (.Name x np) X.env := by rfl) :
    PE X (.Call (.Attribute (.Name x np) "append" apos) (e :: es) [] cpos) (tE X.K TB C Wx (mutK .append i rl)) := r_mut1 rfl (fun _ => rfl) hN hv hd hcd PySem.F.slot_list_append PySem.F.type_list_append ok_append ha hfew hline hs hplain hbase
theorem q_popAt (ha : PA X (e :: es) (tA X.K TB C Wx rl)) (hN : X.N[i]? = some x := by rfl) (hv : Vis X.env.scope x := by first | exact .inl rfl | exact .inr (.inl rfl) | exact .inr (.inr rfl)) (hd : (x == ("__debug__" : Str)) = false := by decide) (hcd : (x == ("__classdict__" : Str)) = false := by decide)
    (hfew : ((backTo cpos (starEach (e :: es) X.env)).all (fun x => !x.1) && (backToKw cpos (keywordEach [] X.env)).all (fun x => x.1.isSome) && decide ((e :: es).length + ([] : List Keyword).length + (if ([] : List Keyword).isEmpty then 0 else 1) < 30)) = true := by rfl)
    (hline : (apos.endLine == cpos.line) = true := by rfl) (hs : starEach (e :: es) X.env = (false, eval e X.env) :: starEach es X.env := by rfl) (hplain : (backTo cpos (starEach es X.env)).any (·.1) = false := by rfl)
    (hbase : attributeBase (.Name x np) "pop" X.env (eval (.Name x np) X.env) = eval (.Name x np) X.env := by rfl) :
    PE X (.Call (.Attribute (.Name x np) "pop" apos) (e :: es) [] cpos) (tE X.K TB C Wx (mutK .popAt i rl)) := r_mut1 rfl (fun _ => rfl) hN hv hd hcd PySem.F.slot_list_pop PySem.F.type_list_pop ok_popAt ha hfew hline hs hplain hbase
theorem q_pop (hN : X.N[i]? = some x := by rfl) (hv : Vis X.env.scope x := by first | exact .inl rfl | exact .inr (.inl rfl) | exact .inr (.inr rfl)) (hd : (x == ("__debug__" : Str)) = false := by decide) (hcd : (x == ("__classdict__" : Str)) = false := by decide)
    (hline : (apos.endLine == cpos.line) = true := by rfl) (hbase : attributeBase (.Name x np) "pop" X.env (eval (.Name x np) X.env) = eval (.Name x np) X.env := by rfl) :
    PE X (.Call (.Attribute (.Name x np) "pop" apos) [] [] cpos) (tE X.K TB C Wx (mutK .pop i nilK)) := r_mut0 rfl (fun _ => rfl) hN hv hd hcd PySem.F.slot_list_pop PySem.F.type_list_pop ok_pop hline hbase
theorem q_extend (ha : PA X (e :: es) (tA X.K TB C Wx rl)) (hN : X.N[i]? = some x := by rfl) (hv : Vis X.env.scope x := by first | exact .inl rfl | exact .inr (.inl rfl) | exact .inr (.inr rfl)) (hd : (x == ("__debug__" : Str)) = false := by decide) (hcd : (x == ("__classdict__" : Str)) = false := by decide)
    (hfew : ((backTo cpos (starEach (e :: es) X.env)).all (fun x => !x.1) && (backToKw cpos (keywordEach [] X.env)).all (fun x => x.1.isSome) && decide ((e :: es).length + ([] : List Keyword).length + (if ([] : List Keyword).isEmpty then 0 else 1) < 30)) = true := by rfl)
    (hline : (apos.endLine == cpos.line) = true := by rfl) (hs : starEach (e :: es) X.env = (false, eval e X.env) :: starEach es X.env := by rfl) (hplain : (backTo cpos (starEach es X.env)).any (·.1) = false := by rfl)
    (hbase : attributeBase (.Name x np) "extend" X.env (eval (.Name x np) X.env) = eval (.Name x np) X.env := by rfl) :
    PE X (.Call (.Attribute (.Name x np) "extend" apos) (e :: es) [] cpos) (tE X.K TB C Wx (mutK .extend i rl)) := r_ext hN hv hd hcd ha hfew hline hs hplain hbase
end
end PB
end

section
set_option Elab.async false
set_option linter.all false
set_option maxRecDepth 100000
set_option maxHeartbeats 4000000
/-! Sound38: more rules as a printer takes them: what is walked, targets, comprehensions, statements. -/
namespace PB
open PySem PySem.Spec PyProof.Rows L2
section
variable {X : Cx} {TB : List (Addr × Str)} {C : CT} {Wx : WX} {k j i : Nat} {a b c e e2 tg : Expr} {es elts : List Expr} {ra rb rc re : EV} {rl : EVs} {pk : List Nat} {kk : Nat} {pos p pos' tpos : Pos} {x y : Str}
/-! what is walked -/
theorem q_rng1 (hm : X.mg "range" = none) (he : PE X e (tE X.K TB C Wx ra)) (hg : Gl X "range" := by rfl) (hs : ∀ es, starEach (e :: es) X.env = (false, eval e X.env) :: starEach es X.env := by intro _; rfl) : PI X tg (.Call (.Name "range" p) [e] [] pos) (tI X.K TB C Wx pk (rng1K ra)) := r_rng1 hg hm he hs
theorem q_rng2 (hm : X.mg "range" = none) (he : PE X e (tE X.K TB C Wx ra)) (he2 : PE X e2 (tE X.K TB C Wx rb)) (hg : Gl X "range" := by rfl) (hs : ∀ es, starEach (e :: es) X.env = (false, eval e X.env) :: starEach es X.env := by intro _; rfl) (hs2 : ∀ es, starEach (e2 :: es) X.env = (false, eval e2 X.env) :: starEach es X.env := by intro _; rfl) :
    PI X tg (.Call (.Name "range" p) [e, e2] [] pos) (tI X.K TB C Wx pk (rng2K ra rb)) := r_rng2 hg hm he he2 hs hs2
theorem q_enm (hm : X.mg "enumerate" = none) (he : PE X e (tE X.K TB C Wx ra)) (hg : Gl X "enumerate" := by rfl) (hs : ∀ es, starEach (e :: es) X.env = (false, eval e X.env) :: starEach es X.env := by intro _; rfl) : PI X (.Tuple elts kk tpos) (.Call (.Name "enumerate" p) [e] [] pos) (tI X.K TB C Wx pk (enmK pk ra)) := r_enm hg hm he hs
theorem q_zp {rl : EVs} (hm : X.mg "zip" = none) (ha : PA X [e, e2] (tA X.K TB C Wx rl)) (hg : Gl X "zip" := by rfl) (hs : ∀ es, starEach (e :: es) X.env = (false, eval e X.env) :: starEach es X.env := by intro _; rfl) (hs2 : ∀ es, starEach (e2 :: es) X.env = (false, eval e2 X.env) :: starEach es X.env := by intro _; rfl) :
    PI X (.Tuple elts kk tpos) (.Call (.Name "zip" p) [e, e2] [] pos) (tI X.K TB C Wx pk (zpK pk rl)) := r_zp hg hm ha hs hs2
/-! targets -/
theorem q_tn (c : Cxt X Wx k) (hi : X.N[i]? = some x := by rfl) (hx : Loc X.env.scope x := by first | exact .inl rfl | exact .inr rfl) (hf : X.fn x = true ∨ X.env.scope.names.lookup x = some .local := by first | exact .inl rfl | exact .inr rfl) : PG X (.Name x pos) (tG X.K TB C Wx (setSlot i)) := t_name c.nd hi hx hf
theorem q_tt {rl : List TK → Env → R Unit} {n : Nat} (c : Cxt X Wx k) (h : PGs X es (tGs X.K TB C Wx rl)) (hn : (assignEach es X.env).length = n := by rfl) (hst : (assignEach es X.env).findIdx? (·.1) = none := by rfl) : PG X (.Tuple es kk pos) (tG X.K TB C Wx (ttK n rl)) := t_tup c.cm h hn hst
theorem q_ts {ix : Expr} (c : Cxt X Wx k) (hi : PE X ix (tE X.K TB C Wx ra)) (hN : X.N[i]? = some x := by rfl) (hv : Vis X.env.scope x := by first | exact .inl rfl | exact .inr (.inl rfl) | exact .inr (.inr rfl)) (hd : (x == ("__debug__" : Str)) = false := by decide) (hcd : (x == ("__classdict__" : Str)) = false := by decide)
    (ha : ∀ v, assign (.Subscript (.Name x p) ix pos) X.env v = (do
      let ov ← holding [v] (eval (.Name x p) X.env)
      let iv ← holding [v, ov] (eval ix X.env)
      standAt pos
      holding [v, ov, iv] (setItem ov iv v)
      release [v, ov, iv] []) := by intro _; rfl) : PG X (.Subscript (.Name x p) ix pos) (tG X.K TB C Wx (tsK i ra)) := t_sub c.u1 hN hv hd hcd hi ha
theorem q_cn {own : List Nat} (c : Cxt X Wx k) (ho : i ∈ own := by decide) (hi : X.N[i]? = some x := by rfl) (hx : Loc X.env.scope x := by first | exact .inl rfl | exact .inr rfl) (hf : X.fn x = true ∨ X.env.scope.names.lookup x = some .local := by first | exact .inr rfl | exact .inl rfl) : PG X (.Name x pos) (tC X.K TB own (setSlot i)) := ct_name ho c.nd hi hx hf
theorem q_ct {own : List Nat} {rl : List TK → Env → R Unit} {n : Nat} (c : Cxt X Wx k) (h : PGs X es (tCs X.K TB own rl)) (hn : (assignEach es X.env).length = n := by rfl) (hst : (assignEach es X.env).findIdx? (·.1) = none := by rfl) : PG X (.Tuple es kk pos) (tC X.K TB own (ttK n rl)) := ct_tup c.cm h hn hst
end
/-! comprehensions -/
section
variable {X : Cx} {TB : List (Addr × Str)} {C : CT} {Wx : WX} {k : Nat}
variable {elt kx vx tg iter tg1 iter1 cn cn1 : Expr} {ifs ifs1 : List Expr} {scope : Scope} {own ownB pk pk1 : List Nat} {pos py spos : Pos}
variable {it it1 : EI} {rt rt1 : EA} {rc rc1 : Env → R Bool} {re rk : EV}
theorem q_lc (ow : List (Str × Nat)) (c : Cxt X Wx k) (hi : PI X tg iter (tI X.K TB C Wx pk it))
    (hg : Bk X scope fun Y => PG Y tg (tC Y.K TB own rt)) (ht : Bk X scope fun Y => PTs Y ifs (tT X.K TB C wF rc)) (he : Bk X scope fun Y => PE Y elt (tE Y.K TB C wF re)) (ok : blkC X.N X.env.scope scope ow = true := by kernel_rfl) (hO : ow.map (·.2) = own := by rfl) (hs : ∀ x, foldedSetIterable iter X.env x = pure x := by intro _; rfl) :
    PE X (.ListComp elt [⟨tg, iter, ifs, 0⟩] scope pos) (tE X.K TB C Wx (compK own (genK own pk rt it rc (eltK re)))) := r_lc c.cm c.nd hi (blkOk_by ok) hO hg ht he hs
theorem q_lcS {i : Nat} {y : Str} (ow : List (Str × Nat)) (c : Cxt X Wx k) (hi : PI X tg iter (tI X.K TB C Wx pk it))
    (hg : Bk X scope fun Y => PG Y tg (tC Y.K TB own rt)) (ht : Bk X scope fun Y => PTs Y ifs (tT X.K TB C wF rc)) (he : Bk X scope fun Y => PE Y elt (tE Y.K TB C wF re)) (hy : X.N[i]? = some y := by rfl) (hyl : X.env.scope.names.lookup y = some .local := by rfl) (ok : blkC X.N X.env.scope scope ow = true := by kernel_rfl) (hO : ow.map (·.2) = own := by rfl)
    (hsw : swapsWith (.ListComp elt [⟨tg, iter, ifs, 0⟩] scope pos) (some (.Name y py)) spos.line X.env = pure true := by rfl) (hs : ∀ x, foldedSetIterable iter X.env x = pure x := by intro _; rfl) :
    sS X TB C Wx (.Assign [.Name y py] (.ListComp elt [⟨tg, iter, ifs, 0⟩] scope pos) spos) (asgK (setSlot i) (compK own (genK own pk rt it rc (eltK re)))) := s_lc c.cm c.nd hy hyl hi (blkOk_by ok) hO hg ht he hsw hs
theorem q_lc2 (ow : List (Str × Nat)) (c : Cxt X Wx k) (hi : PI X tg iter (tI X.K TB C Wx pk it))
    (hg : Bk X scope fun Y => PG Y tg (tC Y.K TB own rt)) (ht : Bk X scope fun Y => PTs Y ifs (tT X.K TB C wF rc))
    (hi1 : Bk X scope fun Y => PI Y tg1 iter1 (tI Y.K TB C wF pk1 it1)) (hg1 : Bk X scope fun Y => PG Y tg1 (tC Y.K TB ownB rt1)) (ht1 : Bk X scope fun Y => PTs Y ifs1 (tT X.K TB C wF rc1))
    (he : Bk X scope fun Y => PE Y elt (tE Y.K TB C wF re)) (ok : blkC X.N X.env.scope scope ow = true := by kernel_rfl) (hO : ow.map (·.2) = own := by rfl) (hsub : ∀ i, i ∈ ownB → i ∈ own := by decide) (hs : ∀ x, foldedSetIterable iter X.env x = pure x := by intro _; rfl) (hs1 : ∀ env x, foldedSetIterable iter1 env x = pure x := by intro _ _; rfl) :
    PE X (.ListComp elt [⟨tg, iter, ifs, 0⟩, ⟨tg1, iter1, ifs1, 0⟩] scope pos) (tE X.K TB C Wx (compK own (genK own pk rt it rc (genK ownB pk1 rt1 it1 rc1 (eltK re))))) := r_lc2 c.cm c.nd hi (blkOk_by ok) hO hsub hg ht hi1 hg1 ht1 he hs hs1
theorem q_lc2S {i : Nat} {y : Str} (ow : List (Str × Nat)) (c : Cxt X Wx k) (hi : PI X tg iter (tI X.K TB C Wx pk it))
    (hg : Bk X scope fun Y => PG Y tg (tC Y.K TB own rt)) (ht : Bk X scope fun Y => PTs Y ifs (tT X.K TB C wF rc))
    (hi1 : Bk X scope fun Y => PI Y tg1 iter1 (tI Y.K TB C wF pk1 it1)) (hg1 : Bk X scope fun Y => PG Y tg1 (tC Y.K TB ownB rt1)) (ht1 : Bk X scope fun Y => PTs Y ifs1 (tT X.K TB C wF rc1))
    (he : Bk X scope fun Y => PE Y elt (tE Y.K TB C wF re)) (hy : X.N[i]? = some y := by rfl) (hyl : X.env.scope.names.lookup y = some .local := by rfl) (ok : blkC X.N X.env.scope scope ow = true := by kernel_rfl) (hO : ow.map (·.2) = own := by rfl) (hsub : ∀ i, i ∈ ownB → i ∈ own := by decide)
    (hsw : swapsWith (.ListComp elt [⟨tg, iter, ifs, 0⟩, ⟨tg1, iter1, ifs1, 0⟩] scope pos) (some (.Name y py)) spos.line X.env = pure true := by rfl)
    (hs : ∀ x, foldedSetIterable iter X.env x = pure x := by intro _; rfl) (hs1 : ∀ env x, foldedSetIterable iter1 env x = pure x := by intro _ _; rfl) :
    sS X TB C Wx (.Assign [.Name y py] (.ListComp elt [⟨tg, iter, ifs, 0⟩, ⟨tg1, iter1, ifs1, 0⟩] scope pos) spos) (asgK (setSlot i) (compK own (genK own pk rt it rc (genK ownB pk1 rt1 it1 rc1 (eltK re))))) := s_lc2 c.cm c.nd hy hyl hi (blkOk_by ok) hO hsub hg ht hi1 hg1 ht1 he hsw hs hs1
theorem q_dc (ow : List (Str × Nat)) (c : Cxt X Wx k) (hi : PI X tg iter (tI X.K TB C Wx pk it))
    (hg : Bk X scope fun Y => PG Y tg (tC Y.K TB own rt)) (ht : Bk X scope fun Y => PTs Y ifs (tT X.K TB C wF rc)) (hk : Bk X scope fun Y => PE Y kx (tE Y.K TB C wF rk)) (he : Bk X scope fun Y => PE Y vx (tE Y.K TB C wF re)) (ok : blkC X.N X.env.scope scope ow = true := by kernel_rfl) (hO : ow.map (·.2) = own := by rfl) (hs : ∀ x, foldedSetIterable iter X.env x = pure x := by intro _; rfl) :
    PE X (.DictComp kx vx [⟨tg, iter, ifs, 0⟩] scope pos) (tE X.K TB C Wx (dcompK own (dgenK own pk rt it rc (kvK rk re)))) := r_dc c.cm c.nd hi (blkOk_by ok) hO hg ht hk he hs
/-- over the items of an own dict -/
theorem q_lck {i : Nat} {x : Str} {elts : List Expr} {kk : Nat} {tpos p apos cpos : Pos} (ow : List (Str × Nat)) (c : Cxt X Wx k)
    (hg : Bk X scope fun Y => PG Y (.Tuple elts kk tpos) (tC Y.K TB own rt)) (ht : Bk X scope fun Y => PTs Y ifs (tT X.K TB C wF rc)) (he : Bk X scope fun Y => PE Y elt (tE Y.K TB C wF re)) (hio : i ∉ own := by decide) (ok : blkC X.N X.env.scope scope ow = true := by kernel_rfl) (hO : ow.map (·.2) = own := by rfl)
    (hN : X.N[i]? = some x := by rfl) (hv : Vis X.env.scope x := by first | exact .inl rfl | exact .inr (.inl rfl) | exact .inr (.inr rfl)) (hd : (x == ("__debug__" : Str)) = false := by decide) (hcd : (x == ("__classdict__" : Str)) = false := by decide)
    (hbase : attributeBase (.Name x p) "items" X.env (eval (.Name x p) X.env) = eval (.Name x p) X.env := by rfl) (hline : (apos.endLine == cpos.line) = true := by rfl)
    (hs : ∀ z, foldedSetIterable (.Call (.Attribute (.Name x p) "items" apos) [] [] cpos) X.env z = pure z := by intro _; rfl) :
    PE X (.ListComp elt [⟨.Tuple elts kk tpos, .Call (.Attribute (.Name x p) "items" apos) [] [] cpos, ifs, 0⟩] scope pos) (tE X.K TB C Wx (lockK i fun kvs => compK own (genK own [] rt (itsK (itemsL kvs)) rc (eltK re)))) := by
  subst hO
  exact (pe_lock (pe_lc c.cm c.nd (pi_items (pe_var hN hv hd hcd) hbase hline) (blkOk_by ok) hg ht he hs)).mono fun σ H Q g => sem_lockc hio g
end
/-! statements -/
section
variable {X : Cx} {TB : List (Addr × Str)} {C : CT} {Wx : WX} {k i j l : Nat} {a b c e tg : Expr} {es es2 : List Expr} {st : Stmt} {sts sts2 : List Stmt} {pos pos' px py pz pt pt2 : Pos} {ra rb : EV} {rl : EVs} {pa pb : ES} {x y z : Str} {kt k2 : Nat} {rt : EA}
theorem q_ex (he : PE X e (tE X.K TB C Wx ra)) (hs : swapsWith e none pos.line X.env = pure false := by rfl) : sS X TB C Wx (.Expr e pos) (exK ra) := s_ex he hs
theorem q_rtv (hN : X.N[i]? = some x := by rfl) (hv : Vis X.env.scope x := by first | exact .inl rfl | exact .inr (.inl rfl) | exact .inr (.inr rfl)) (hd : (x == ("__debug__" : Str)) = false := by decide) (hcd : (x == ("__classdict__" : Str)) = false := by decide) : sS X TB C Wx (.Return (some (.Name x pos')) pos) (rtvK i) := s_rtv hN hv hd hcd
theorem q_set (c : Cxt X Wx k) (he : PE X e (tE X.K TB C Wx ra)) (hi : X.N[i]? = some x := by rfl) (hx : Loc X.env.scope x := by first | exact .inl rfl | exact .inr rfl) (hf : X.fn x = true ∨ X.env.scope.names.lookup x = some .local := by first | exact .inl rfl | exact .inr rfl)
    (hs : swapsWith e (some (.Name x pos')) pos.line X.env = pure false := by rfl) : sS X TB C Wx (.Assign [.Name x pos'] e pos) (asgK (setSlot i) ra) := s_set c.nd hi hx hf he hs
theorem q_asg (hg : PG X tg (tG X.K TB C Wx rt)) (he : PE X e (tE X.K TB C Wx ra)) (hs : swapsWithSole [tg] e pos.line X.env = pure false := by rfl) (hw : swappedStores [tg] e X.env = pure none := by rfl)
    (h1 : (assignEach [tg] X.env).map (·.2) = [assign tg X.env] := by rfl) : sS X TB C Wx (.Assign [tg] e pos) (asgK rt ra) := s_asg he hg hs hw h1
theorem q_par (c : Cxt X Wx k) (ha : PA X [a, b] (tA X.K TB C Wx rl)) (hi : X.N[i]? = some x := by rfl) (hj : X.N[j]? = some y := by rfl) (hij : i ≠ j := by decide) (hx : X.env.scope.names.lookup x = some .local := by rfl) (hy : X.env.scope.names.lookup y = some .local := by rfl)
    (hw : swappedStores [.Tuple [.Name x px, .Name y py] kt pt] (.Tuple [a, b] k2 pt2) X.env = pure (some [x, y]) := by rfl) (hs : swapsWithSole [.Tuple [.Name x px, .Name y py] kt pt] (.Tuple [a, b] k2 pt2) pos.line X.env = pure false := by rfl) :
    sS X TB C Wx (.Assign [.Tuple [.Name x px, .Name y py] kt pt] (.Tuple [a, b] k2 pt2) pos) (asgpK 2 (tconsK (setSlot i) (tconsK (setSlot j) tnilK)) rl) := s_par c.cm c.nd hi hj hij hx hy ha hw hs
theorem q_par3 {d : Expr} (c : Cxt X Wx k) (ha : PA X [a, b, d] (tA X.K TB C Wx rl)) (hi : X.N[i]? = some x := by rfl) (hj : X.N[j]? = some y := by rfl) (hl : X.N[l]? = some z := by rfl) (hij : i ≠ j := by decide) (hil : i ≠ l := by decide) (hjl : j ≠ l := by decide) (hx : X.env.scope.names.lookup x = some .local := by rfl) (hy : X.env.scope.names.lookup y = some .local := by rfl) (hz : X.env.scope.names.lookup z = some .local := by rfl)
    (hw : swappedStores [.Tuple [.Name x px, .Name y py, .Name z pz] kt pt] (.Tuple [a, b, d] k2 pt2) X.env = pure (some [x, y, z]) := by rfl) (hs : swapsWithSole [.Tuple [.Name x px, .Name y py, .Name z pz] kt pt] (.Tuple [a, b, d] k2 pt2) pos.line X.env = pure false := by rfl) :
    sS X TB C Wx (.Assign [.Tuple [.Name x px, .Name y py, .Name z pz] kt pt] (.Tuple [a, b, d] k2 pt2) pos) (asgpK 3 (tconsK (setSlot i) (tconsK (setSlot j) (tconsK (setSlot l) tnilK))) rl) :=
  (ps_par3 c.cm c.nd hi hj hl hij hil hjl hx hy hz ha hw hs).mono fun _ _ _ g => sem_par3 g
theorem q_asgt {n : Nat} {rt : List TK → Env → R Unit} (c : Cxt X Wx k) (hg : PGs X es (tGs X.K TB C Wx rt)) (ha : PA X es2 (tA X.K TB C Wx rl)) (hn : (assignEach es X.env).length = n := by rfl) (hst : (assignEach es X.env).findIdx? (·.1) = none := by rfl) (hz : n ≤ sizeLine := by decide)
    (hs : swapsWithSole [.Tuple es kt pt] (.Tuple es2 k2 pt2) pos.line X.env = pure false := by rfl) (hw : swappedStores [.Tuple es kt pt] (.Tuple es2 k2 pt2) X.env = pure none := by rfl)
    (h1 : (assignEach [.Tuple es kt pt] X.env).map (·.2) = [assign (.Tuple es kt pt) X.env] := by rfl) : sS X TB C Wx (.Assign [.Tuple es kt pt] (.Tuple es2 k2 pt2) pos) (asgpK n rt rl) :=
  (ps_asg (pe_tup ha) (pg_tup c.cm hg hn hst) hs hw h1).mono fun _ _ _ g => sem_asgt hz g
theorem q_rse {n : Nat} {t : T} {m : Str} {jj : Nat} {p p2 : Pos} (r : Rai X.K X.mg C x n) (c : Cxt X Wx k) (hg : Gl X x := by rfl) (hdb : (x == ("__debug__" : Str)) = false := by decide) : sS X TB C Wx (.Raise (some (.Call (.Name x p) [.Constant (.str m) jj p2] [] pos)) none pos') (rseK n (cK t)) := by
  obtain ⟨a, h1, h2, h3, h4, h5, h6⟩ := r.ex
  exact s_rse0 c.cm c.tk (pmk_own PySem.F.excBase_ValueError h1 h2 h3 (raises_own h4 h5) hg hdb) h6
end
end PB
end

section
set_option Elab.async false
set_option linter.all false
set_option maxRecDepth 100000
set_option maxHeartbeats 4000000
/-! Sound39: the lambda rule; a def whose code object is known. -/
namespace PB
open PySem PySem.Spec PyProof.Rows L2
section
variable {X : Cx} {TB : List (Addr × Str)} {C : CT} {Wx : WX}
/-- the maker's side: its code object, its table -/
structure LamB (X : Cx) (TB : List (Addr × Str)) : Prop where
  ex : ∃ c P, LamX.TabB X.base X.mg c P ∧ X.env.code = .ref c ∧ (P, X.env.qual ++ "<lambda>") ∈ TB ∧ ∀ p ∈ TB, p.1 = P → p.2 = X.env.qual ++ "<lambda>"
/-- the def that gets lambdas -/
structure Met (P : Program) (w : World) (K : PySem.W.Frag) (mg : Str → Option Value) (TB : List (Addr × Str)) (C : CT) (x : Str) (n : Nat) (h : EH) (b : ES) : Prop where
  ex : ∃ (g : Addr) (fd : FuncData) (pg : Arguments) (sg : Scope) (Ng : List Str) (a : Str) (h₀ : ExceptHandler) (hds : List ExceptHandler) (sts : List Stmt) (p1 p2 p3 p4 : Pos) (wv : Ends → WX),
    FunD K x x pg (.Try [.Expr (.Call (.Name a p1) [] [] p2) p3] (h₀ :: hds) [] [] p4 :: sts) sg [] [] g fd ∧ mg x = some (.ref g) ∧ L2.Binds K fd [a] [] ∧ FnScope Ng [a] sg ∧ Ng.length = n ∧ Ng[0]? = some a ∧ Vis sg a ∧
    (∀ (base : Heap) (A : Around) (outer : List PySem.Env) (cdg : Value) (s : Shared) (H : Hp), HOk (cxOf C8.CX0 P w K mg base Ng x sg g cdg A outer s H C8.E0).nox (h₀ :: hds) wv) ∧
    (∀ (base : Heap) (A : Around) (outer : List PySem.Env) (cdg : Value) (s : Shared) (H : Hp), sSs (cxOf C8.CX0 P w K mg base Ng x sg g cdg A outer s H C8.E0).nox TB C wF sts b) ∧ hSem K TB C wF wv h ∧ (x == ("__debug__" : Str)) = false ∧ (a == ("__debug__" : Str)) = false ∧ (a == ("__classdict__" : Str)) = false
theorem q_lam {x : Str} {k m n : Nat} {h : EH} {b : ES} {params : Arguments} {body : Expr} {scope : Scope} {re : EV} {p lpos pos : Pos} (M : Met X.prog X.w X.K X.mg TB C x n h b) (B : LamB X TB) (c : Cxt X Wx m)
    (hbody : ∀ (A : Around) (outer : List PySem.Env) (s : Shared) (H : Hp) (E : XK) (f c' : Addr), Cxt (LamX.lamCx X A outer s H E scope f c') (fun cls d _ H' => E cls d H') k → PE (LamX.lamCx X A outer s H E scope f c') body (tE X.K TB C (fun cls d _ H' => E cls d H') re))
    (hk : k + 2 ≤ m := by decide) (hg : Gl X x := by rfl) (L : LamX.lamSB X.env.scope scope = true := by kernel_rfl) (hdef : defaultsOf params X.env = ([], []) := by rfl)
    (hbind : ∀ (q : Str) (cl : List (Str × Addr)) (pm cv ctv : Value), bindArgs (PySem.W.kla_fn "<lambda>" q params body scope cl pm cv ctv) ⟨[], []⟩ = pure [] := by intros; rfl) :
    PE X (.Call (.Name x p) [.Lambda params body scope lpos] [] pos) (tE X.K TB C Wx (lamK (metK n h b) re)) := by
  obtain ⟨g, fd, pg, sg, Ng, a, h₀, hds, sts, p1, p2, p3, p4, wv, F, hm, hb, Sg, hn, hNg, hva, hh, hr, hS, d1, d2, d3⟩ := M.ex
  obtain ⟨cc, P, TBb, hcode, hmT, hu⟩ := B.ex
  obtain ⟨oc, od, dV, kV, doc, pm, an, cdv, ct, osl, rfl, lk, hcd, _, _⟩ := F.ex
  exact (LamX.pe_lamcall hg hm F.kp lk hcd hb Sg hNg hva (met_gives hn (fun s H => hh _ _ _ _ s H) fun s H => hr _ _ _ _ s H) TBb hcode hmT hu (c.rm.mono hk) (LamX.lamS_by L) hdef hbind (fun A outer s H E f c' hr2 => hbody A outer s H E f c' (cxt_lam c hr2)) d1 d2 d3).mono fun σ H Q g => sem_lam hS g
end
/-- what a clause makes of an exception: by its suite; never told; on to the next one -/
def wC (K : PySem.W.Frag) (TB : List (Addr × Str)) (C : CT) (cv : Value) (rb : ES) (w : Ends → WX) : Ends → WX := fun D cls d σ H => ∃ b, PySem.W.exmOne K cls cv = some b ∧ (b = true → ∀ a, H a = none → tS K TB C wF rb D σ H) ∧ (b = false → w D cls d σ H)
def wN (K : PySem.W.Frag) (cv : Value) (i : Nat) (w : Ends → WX) : Ends → WX := fun D cls d σ H => ∃ b, PySem.W.exmOne K cls cv = some b ∧ (b = true → ∀ a, H a = none → (fun (_ : Ends) (_ : L2.St) (_ : Hp) => False) (goneD D i) (σ.set i (some (.ref a))) H) ∧ (b = false → w D cls d σ H)
def wE : Ends → WX := fun _ => wF
section
variable {X : Cx} {TB : List (Addr × Str)} {C : CT} {x n : Str} {i : Nat} {c : Value} {b₀ : Stmt} {suite : List Stmt} {np pos' : Pos} {rest : List ExceptHandler} {w : Ends → WX} {rb : ES}
theorem q_h0 (hs : X.stack = X.env :: X.outer := by rfl) (hf : X.env.frame = some X.env.locals := by rfl) : HOk X [] wE := hok_nil hs hf LamX.takes0
theorem q_hc (hc : Names X x c) (hsu : ∀ (a : Addr) (oe : Obj) (pn : List (Addr × Obj)), sSs (X.suite a ((a, oe) :: pn)) TB C wF (b₀ :: suite) rb) (r : HOk X rest w) (hf : X.env.frame = some X.env.locals := by rfl) : HOk X (.ExceptHandler (some (.Name x np)) none (b₀ :: suite) pos' :: rest) (wC X.K TB C c rb w) :=
  hok_cons (ts := fun _ _ _ => tS X.K TB C wF rb) hf hc (fun a oe cls d pn _ _ => hsu a oe pn) r
theorem q_hn (hc : Names X x c) (hN : X.N.Nodup) (r : HOk X rest w) (hf : X.env.frame = some X.env.locals := by rfl) (hi : X.N[i]? = some n := by rfl) (hln : X.env.kindOf n = some .local := by rfl) : HOk X (.ExceptHandler (some (.Name x np)) (some n) (b₀ :: suite) pos' :: rest) (wN X.K c i w) :=
  hok_as (ts := fun _ _ _ => fun _ _ _ => False) hf hN hi hln hc (fun _ _ _ _ _ _ _ => ⟨fun _ _ _ _ _ _ h => h.elim⟩) r
end
section
variable {K : PySem.W.Frag} {TB : List (Addr × Str)} {C : CT} {c' i : Nat} {cv : Value} {rb : ES} {r : EH} {w : Ends → WX}
theorem q_s0 : hSem K TB C wF wE hnilK := hSem_nil
theorem q_sc (hx : ∀ c, PySem.W.exmOne K (C c).1 cv = some (Nat.beq c c')) (hr : hSem K TB C wF w r) : hSem K TB C wF (wC K TB C cv rb w) (hdK c' (fun _ => rb) r) := hSem_cons (fun _ => rfl) hx hr
theorem q_sn (hx : ∀ c, PySem.W.exmOne K (C c).1 cv = some (Nat.beq c c')) (hr : hSem K TB C wF w r) : hSem K TB C wF (wN K cv i w) (hdK c' (fun _ => badK) r) := hSem_never (i := i) (fun _ _ => rfl) hx hr
end
theorem nm_own {X : Cx} {x : Str} {c : Value} (h : X.mg x = some c) (hg : Gl X x := by rfl) (hd : (x == ("__debug__" : Str)) = false := by decide) : Names X x c := ⟨hg, hd, .inl h⟩
theorem q_met {P : Program} {w : World} {K : PySem.W.Frag} {mg : Str → Option Value} {TB : List (Addr × Str)} {C : CT} {x : Str} {n : Nat} {h : EH} {b : ES} {g : Addr} {fd : FuncData} {pg : Arguments} {sg : Scope} {Ng : List Str} {a : Str} {h₀ : ExceptHandler} {hds : List ExceptHandler} {sts : List Stmt} {p1 p2 p3 p4 : Pos} {wv : Ends → WX}
    (F : FunD K x x pg (.Try [.Expr (.Call (.Name a p1) [] [] p2) p3] (h₀ :: hds) [] [] p4 :: sts) sg [] [] g fd) (hm : mg x = some (.ref g)) (hb : L2.Binds K fd [a] []) (Sg : FnScope Ng [a] sg) (hn : Ng.length = n) (hNg : Ng[0]? = some a) (hva : Vis sg a)
    (hh : ∀ (base : Heap) (A : Around) (outer : List PySem.Env) (cdg : Value) (s : Shared) (H : Hp), HOk (cxOf C8.CX0 P w K mg base Ng x sg g cdg A outer s H C8.E0).nox (h₀ :: hds) wv)
    (hr : ∀ (base : Heap) (A : Around) (outer : List PySem.Env) (cdg : Value) (s : Shared) (H : Hp), sSs (cxOf C8.CX0 P w K mg base Ng x sg g cdg A outer s H C8.E0).nox TB C wF sts b) (hS : hSem K TB C wF wv h)
    (d1 : (x == ("__debug__" : Str)) = false := by decide) (d2 : (a == ("__debug__" : Str)) = false := by decide) (d3 : (a == ("__classdict__" : Str)) = false := by decide) : Met P w K mg TB C x n h b :=
  ⟨g, fd, pg, sg, Ng, a, h₀, hds, sts, p1, p2, p3, p4, wv, F, hm, hb, Sg, hn, hNg, hva, hh, hr, hS, d1, d2, d3⟩
theorem fn_okC {TB : List (Addr × Str)} {C : CT} {CX : CXT} {P : Program} {w : World} {K : PySem.W.Frag} {mg : Str → Option Value} {base : Heap} {k : Nat} {f cc : Addr} {fd : FuncData} {x qual : Str} {params : Arguments} {body : List Stmt} {scope : Scope} {dvs : List V} {kws : List (Str × V)}
    {N ps : List Str} {fn : Env → Rc} {r : ES} {nl : Nat} (F : FunD K x qual params body scope dvs kws f fd) (hcc : fd.code = .ref cc) (S : FnScope N ps scope)
    (hn : ps.length + nl = N.length) (hf : ∀ sl, fn sl = .bad ∨ (sl.length + nl = N.length ∧ fn sl = fin sl (r (sl ++ nos nl))))
    (hb : ∀ (cdv : Value) (A : Around) (outer : List PySem.Env) (s : Shared) (H : Hp) (E : XK), cdv = .ref cc → Room k (A.deeper (envOfC qual scope s.heap.objs.size f cdv)) → PSs (cxOf CX P w K mg base N qual scope f cdv A outer s H E) body (tS K TB C (fun cls d _ H' => E cls d H') r)) :
    FnOk P w K mg base CX (k + 1) f fd ps (spF K TB C fn) := by
  obtain ⟨oc, od, dV, kV, doc, pm, an, cdv, ct, osl, rfl, lk, hcd, _, _⟩ := F.ex
  refine fn_of lk hcd S (fun vs H Q E g => ?_) fun A outer s H vs Q E hr h => ⟨_, hb cdv A outer s H E hcc hr, sem_body hf h⟩
  obtain ⟨W, O, sl, en, g⟩ := g
  rcases hf sl with e | ⟨hl, e⟩
  · rw [e] at g; exact g.elim
  · have lenV : sl.length = vs.length := by rw [en.len, List.length_map]
    omega
theorem hf1 {f : Env → Rc} {r : ES} {np nl : Nat} (h : ∀ sl, f sl = cond (Nat.beq sl.length np) (fin sl (r (sl ++ nos nl))) .bad) (sl : Env) : f sl = .bad ∨ (sl.length + nl = np + nl ∧ f sl = fin sl (r (sl ++ nos nl))) := by
  rw [h]
  cases e : Nat.beq sl.length np with
  | true => exact .inr ⟨by rw [Nat.eq_of_beq_eq_true e], rfl⟩
  | false => exact .inl rfl
section
variable {P : Program} {w : World} {K : PySem.W.Frag} {mg : Str → Option Value} {base : Heap} {TB : List (Addr × Str)} {C : CT} {k np nl : Nat} {x name qual : Str} {params : Arguments} {body : List Stmt} {scope : Scope} {f : Addr} {fd : FuncData} {N ps : List Str} {fn : Env → Rc} {r : ES}
/-- a def, for its callers -/
theorem q_def (F : FunD K name qual params body scope [] [] f fd) (hm : mg x = some (.ref f)) (S : FnScope N ps scope) (hfn : ∀ sl, fn sl = cond (Nat.beq sl.length np) (fin sl (r (sl ++ nos nl))) .bad) (hN : np + nl = N.length) (hp : ps.length = np)
    (hbi : ∀ (kV doc pm : Value) (an : Option Addr) (cdv ct : Value) (us : List Value), us.length = ps.length → bindArgs (PySem.W.fnOf name qual params body scope .none kV doc pm an cdv ct) ⟨us, []⟩ = pure (ps.zip us))
    (hb : ∀ (cdv : Value) (A : Around) (outer : List PySem.Env) (s : Shared) (H : Hp) (E : XK), Cxt (cxOf (L2.CX P w) P w K mg base N qual scope f cdv A outer s H E) (fun cls d _ H' => E cls d H') k → PassesOwn (model P w) (cxOf (L2.CX P w) P w K mg base N qual scope f cdv A outer s H E).A (cxOf (L2.CX P w) P w K mg base N qual scope f cdv A outer s H E).env (cxOf (L2.CX P w) P w K mg base N qual scope f cdv A outer s H E).xe →
      sSs (cxOf (L2.CX P w) P w K mg base N qual scope f cdv A outer s H E) TB C (fun cls d _ H' => E cls d H') body r) : Cal P w K mg base TB C (k + 1) x ps fn := by
  refine ⟨f, fd, fn_ok (nl := nl) F S (by rw [hp]; exact hN) (fun sl => ?_) fun cdv A outer s H E hr => hb cdv A outer s H E (cxt_of S hr) (passes_of rfl), ?_, hm, F.kp⟩
  · rw [← hN]; exact hf1 hfn sl
  · exact F.bindsN hbi
/-- a def with packed rest arguments -/
theorem q_defv {pv : Str} (F : FunD K name qual params body scope [] [] f fd) (hm : mg x = some (.ref f)) (S : FnScope N (ps ++ [pv]) scope) (hfn : ∀ sl, fn sl = cond (Nat.beq sl.length np) (fin sl (r (sl ++ nos nl))) .bad) (hN : np + nl = N.length)
    (hbi : ∀ (kV doc pm : Value) (an : Option Addr) (cdv ct : Value) (us rest : List Value), us.length = ps.length → bindArgs (PySem.W.fnOf name qual params body scope .none kV doc pm an cdv ct) ⟨us ++ rest, []⟩ = (newTuple rest >>= fun t => pure (ps.zip us ++ [(pv, t)])))
    (hb : ∀ (cdv : Value) (A : Around) (outer : List PySem.Env) (s : Shared) (H : Hp) (E : XK), Cxt (cxOf (L2.CX P w) P w K mg base N qual scope f cdv A outer s H E) (fun cls d _ H' => E cls d H') k → PassesOwn (model P w) (cxOf (L2.CX P w) P w K mg base N qual scope f cdv A outer s H E).A (cxOf (L2.CX P w) P w K mg base N qual scope f cdv A outer s H E).env (cxOf (L2.CX P w) P w K mg base N qual scope f cdv A outer s H E).xe →
      sSs (cxOf (L2.CX P w) P w K mg base N qual scope f cdv A outer s H E) TB C (fun cls d _ H' => E cls d H') body r) : CalV P w K mg base TB C (k + 1) x ps.length fn := by
  refine ⟨f, fn_okV (nl := nl) F S StX.cxUp hbi (fun sl => ?_) fun cdv A outer s H E hr => hb cdv A outer s H E (cxt_of S hr) (passes_of rfl), hm, F.kp⟩
  rw [← hN]; exact hf1 hfn sl
/-- a def that makes lambdas -/
theorem q_defL {cc P0 : Addr} {q0 : Str} (F : FunD K name qual params body scope [] [] f fd) (hm : mg x = some (.ref f)) (hcc : fd.code = .ref cc) (T : LamX.TabB base mg cc P0) (hq : ∀ n, (envOfC qual scope n f (.ref cc)).qual ++ "<lambda>" = q0) (hmT : (P0, q0) ∈ TB) (hu : ∀ p ∈ TB, p.1 = P0 → p.2 = q0)
    (S : FnScope N ps scope) (hfn : ∀ sl, fn sl = cond (Nat.beq sl.length np) (fin sl (r (sl ++ nos nl))) .bad) (hN : np + nl = N.length) (hp : ps.length = np)
    (hbi : ∀ (kV doc pm : Value) (an : Option Addr) (cdv ct : Value) (us : List Value), us.length = ps.length → bindArgs (PySem.W.fnOf name qual params body scope .none kV doc pm an cdv ct) ⟨us, []⟩ = pure (ps.zip us))
    (hb : ∀ (A : Around) (outer : List PySem.Env) (s : Shared) (H : Hp) (E : XK), Cxt (cxOf (L2.CX P w) P w K mg base N qual scope f (.ref cc) A outer s H E) (fun cls d _ H' => E cls d H') k → LamB (cxOf (L2.CX P w) P w K mg base N qual scope f (.ref cc) A outer s H E) TB →
      PassesOwn (model P w) (cxOf (L2.CX P w) P w K mg base N qual scope f (.ref cc) A outer s H E).A (cxOf (L2.CX P w) P w K mg base N qual scope f (.ref cc) A outer s H E).env (cxOf (L2.CX P w) P w K mg base N qual scope f (.ref cc) A outer s H E).xe →
      sSs (cxOf (L2.CX P w) P w K mg base N qual scope f (.ref cc) A outer s H E) TB C (fun cls d _ H' => E cls d H') body r) : Cal P w K mg base TB C (k + 1) x ps fn := by
  refine ⟨f, fd, fn_okC (nl := nl) (r := r) F hcc S (by rw [hp]; exact hN) (fun sl => ?_) fun cdv A outer s H E e hr => ?_, ?_, hm, F.kp⟩
  · rw [← hN]; exact hf1 hfn sl
  · subst e
    exact hb A outer s H E (cxt_of S hr) ⟨cc, P0, T, rfl, by rw [show (cxOf (L2.CX P w) P w K mg base N qual scope f (.ref cc) A outer s H E).env.qual ++ "<lambda>" = q0 from hq _]; exact hmT, fun p hp e => (hu p hp e).trans (hq _).symm⟩ (passes_of rfl)
  · exact F.bindsN hbi
end
/-! list(range(n)), tuple(range(n)) -/
section
variable {X : Cx} {TB : List (Addr × Str)} {C : CT} {Wx : WX} {k : Nat} {a : Expr} {ra : EV} {pos p p2 pos2 : Pos}
theorem q_listrg (c : Cxt X Wx k) (hm : X.mg "list" = none) (hm2 : X.mg "range" = none) (ha : PE X a (tE X.K TB C Wx ra)) (hg : Gl X "list" := by rfl) (hg2 : Gl X "range" := by rfl) (na : starEach [a] X.env = (false, eval a X.env) :: starEach [] X.env := by rfl)
    (nb : starEach [.Call (.Name "range" p2) [a] [] pos2] X.env = (false, eval (.Call (.Name "range" p2) [a] [] pos2) X.env) :: starEach [] X.env := by rfl) : PE X (.Call (.Name "list" p) [.Call (.Name "range" p2) [a] [] pos2] [] pos) (tE X.K TB C Wx (litK (rng1K ra))) :=
  (pe_listRg c.cm hg hm (prg_1 hg2 hm2 ha na) nb).mono fun σ H Q g => sem_lit1 g
theorem q_tuprg (c : Cxt X Wx k) (hm : X.mg "tuple" = none) (hm2 : X.mg "range" = none) (ha : PE X a (tE X.K TB C Wx ra)) (hg : Gl X "tuple" := by rfl) (hg2 : Gl X "range" := by rfl) (na : starEach [a] X.env = (false, eval a X.env) :: starEach [] X.env := by rfl)
    (nb : starEach [.Call (.Name "range" p2) [a] [] pos2] X.env = (false, eval (.Call (.Name "range" p2) [a] [] pos2) X.env) :: starEach [] X.env := by rfl) : PE X (.Call (.Name "tuple" p) [.Call (.Name "range" p2) [a] [] pos2] [] pos) (tE X.K TB C Wx (titK (rng1K ra))) :=
  (pe_tupRg c.cm hg hm (prg_1 hg2 hm2 ha na) nb).mono fun σ H Q g => sem_tit1 g
end
/-! a dict display of one pair -/
section
variable {X : Cx} {TB : List (Addr × Str)} {C : CT} {Wx : WX} {a b : Expr} {ra rb : EV} {pos : Pos}
theorem q_dct1 (ha : PE X a (tE X.K TB C Wx ra)) (hb : PE X b (tE X.K TB C Wx rb)) : PE X (.Dict [some a] [b] pos) (tE X.K TB C Wx (dctK (consK ra (consK rb nilK)))) := by
  refine r_dct (prs_cons ha hb prs_nil) (fun ρ l ρ' h => ?_) rfl rfl (by simp) (by simp) (by decide)
  have h : ((ra ρ).bind fun x ρ => ((rb ρ).bind fun y ρ => (nilK ρ).bind fun l ρ => .ok (y :: l) ρ).bind fun l ρ => R.ok (x :: l) ρ) = .ok l ρ' := h
  obtain ⟨x, ρ1, _, h⟩ := bind_ok h
  obtain ⟨l1, ρ2, h1, h⟩ := bind_ok h
  obtain ⟨y, ρ3, _, h1⟩ := bind_ok h1
  obtain ⟨l0, ρ4, h0, h1⟩ := bind_ok h1
  cases h0
  cases h1
  cases h
  rfl
end
end PB
end

section
set_option Elab.async false
set_option linter.all false
set_option maxRecDepth 100000
set_option maxHeartbeats 4000000
/-! Sound40: functions known at some arguments only. -/
namespace PB
open PySem PySem.Spec PyProof.Rows L2
/-- g knows at most what f does -/
def Le (g f : Env → Rc) : Prop := ∀ sl, g sl = .bad ∨ g sl = f sl
theorem Le.refl (f : Env → Rc) : Le f f := fun _ => .inr rfl
theorem spF_le {K : PySem.W.Frag} {TB : List (Addr × Str)} {C : CT} {f g : Env → Rc} (h : Le g f) {vs : List V} {H : Hp} {Q : VK} {E : XK} (s : spF K TB C g vs H Q E) : spF K TB C f vs H Q E := by
  obtain ⟨W, O, sl, en, r⟩ := s
  rcases h sl with e | e
  · rw [e] at r; exact r.elim
  · rw [e] at r; exact ⟨W, O, sl, en, r⟩
section
variable {P : Program} {w : World} {K : PySem.W.Frag} {mg : Str → Option Value} {base : Heap} {TB : List (Addr × Str)} {C : CT} {k n : Nat} {x : Str} {ps : List Str} {f g : Env → Rc}
theorem Cal.le (h : Le g f) (d : Cal P w K mg base TB C k x ps f) : Cal P w K mg base TB C k x ps g := by
  obtain ⟨a, fd, F, b, m, kp⟩ := d.ex
  exact ⟨a, fd, ⟨fun vs H Q E s => F.len vs H Q E (spF_le h s), fun A outer s H args us vs Q E hr e0 hb r sp => F.run A outer s H args us vs Q E hr e0 hb r (spF_le h sp)⟩, b, m, kp⟩
theorem CalV.le (h : Le g f) (d : CalV P w K mg base TB C k x n f) : CalV P w K mg base TB C k x n g := by
  obtain ⟨a, F, m, kp⟩ := d.ex
  exact ⟨a, F.imp fun vs H Q E ⟨ws, rest, e, l, z, q⟩ => ⟨ws, rest, e, l, z, fun p hp => spF_le h (q p hp)⟩, m, kp⟩
end
mutual
/-- the same tree -/
def T.same : T → T → Bool
  | .non, .non => true
  | .bl a, .bl b => a == b
  | .int i, .int j => iEq i j
  | .str a, .str b => strEq a b
  | .tup a, .tup b => T.sames a b
  | .tpd a, .tpd b => T.sames a b
  | .lst a, .lst b => T.sames a b
  | .dct a, .dct b => a.isEmpty && b.isEmpty
  | _, _ => false
def T.sames : List T → List T → Bool
  | [], [] => true
  | x :: xs, y :: ys => cond (x.same y) (T.sames xs ys) false
  | _, _ => false
end
mutual
theorem same_eq : ∀ (x y : T), x.same y = true → x = y
  | .non, y, h => by cases y <;> first | rfl | cases h
  | .bl a, y, h => by
    cases y with
    | bl b => exact congrArg T.bl (beq_iff_eq.mp h)
    | _ => cases h
  | .int a, y, h => by
    cases y with
    | int b => exact congrArg T.int (by have h : iEq a b = true := h; rw [iEq_beq] at h; exact beq_iff_eq.mp h)
    | _ => cases h
  | .str a, y, h => by
    cases y with
    | str b => exact congrArg T.str (str_eq a b h)
    | _ => cases h
  | .tup a, y, h => by
    cases y with
    | tup b => exact congrArg T.tup (sames_eq a b h)
    | _ => cases h
  | .lst a, y, h => by
    cases y with
    | lst b => exact congrArg T.lst (sames_eq a b h)
    | _ => cases h
  | .dct a, y, h => by
    cases y with
    | dct b =>
      obtain ⟨h1, h2⟩ := Bool.and_eq_true_iff.mp (show (a.isEmpty && b.isEmpty) = true from h)
      rw [List.isEmpty_iff.mp h1, List.isEmpty_iff.mp h2]
    | _ => cases h
  | .scr a, y, h => by cases y <;> cases h
  | .tpd a, y, h => by
    cases y with
    | tpd b => exact congrArg T.tpd (sames_eq a b h)
    | _ => cases h
theorem sames_eq : ∀ (x y : List T), T.sames x y = true → x = y
  | [], [], _ => rfl
  | [], _ :: _, h => by cases h
  | _ :: _, [], h => by cases h
  | x :: xs, y :: ys, h => by
    have h : cond (x.same y) (T.sames xs ys) false = true := h
    cases e : x.same y with
    | false => rw [e] at h; cases h
    | true => rw [e] at h; rw [same_eq x y e, sames_eq xs ys h]
theorem str_eq : ∀ (a b : List Nat), strEq a b = true → a = b
  | [], [], _ => rfl
  | [], _ :: _, h => by cases h
  | _ :: _, [], h => by cases h
  | x :: xs, y :: ys, h => by
    have h : cond (Nat.beq x y) (strEq xs ys) false = true := h
    cases e : Nat.beq x y with
    | false => rw [e] at h; cases h
    | true => rw [e] at h; rw [Nat.eq_of_beq_eq_true e, str_eq xs ys h]
end
/-- one argument known, or any -/
inductive Pat where
  | any
  | is (t : T)
def Pat.ok : Pat → Sl → Bool
  | .any, .sh _ => true
  | .is t, .sh u => t.same u
  | _, _ => false
def patsOk : List Pat → Env → Bool
  | [], [] => true
  | p :: ps, s :: sl => cond (p.ok s) (patsOk ps sl) false
  | _, _ => false
/-- a table of results -/
def memo : List (List Pat × Rc) → Env → Rc
  | [], _ => .bad
  | (p, r) :: l, sl => cond (patsOk p sl) r (memo l sl)
/-- the slots that fit -/
def Fits : List Pat → Env → Prop
  | [], sl => sl = []
  | .any :: ps, sl => ∃ t r, sl = .sh t :: r ∧ Fits ps r
  | .is t :: ps, sl => ∃ r, sl = .sh t :: r ∧ Fits ps r
theorem pats_fit : ∀ (ps : List Pat) (sl : Env), patsOk ps sl = true → Fits ps sl
  | [], [], _ => rfl
  | [], _ :: _, h => by cases h
  | p :: ps, [], h => by cases p <;> cases h
  | p :: ps, s :: sl, h => by
    have h : cond (p.ok s) (patsOk ps sl) false = true := h
    cases e : p.ok s with
    | false => rw [e] at h; cases h
    | true =>
      rw [e] at h
      have ih := pats_fit ps sl h
      cases p with
      | any =>
        cases s with
        | sh t => exact ⟨t, sl, rfl, ih⟩
        | _ => cases e
      | is u =>
        cases s with
        | sh t =>
          have := same_eq u t e
          subst this
          exact ⟨sl, rfl, ih⟩
        | _ => cases e
theorem memo_nil {f : Env → Rc} : Le (memo []) f := fun _ => .inl rfl
theorem memo_cons {f : Env → Rc} {p : List Pat} {r : Rc} {l : List (List Pat × Rc)} (h : ∀ sl, Fits p sl → f sl = r) (hl : Le (memo l) f) : Le (memo ((p, r) :: l)) f := fun sl => by
  show cond (patsOk p sl) r (memo l sl) = .bad ∨ cond (patsOk p sl) r (memo l sl) = f sl
  cases e : patsOk p sl with
  | true => exact .inr (h sl (pats_fit p sl e)).symm
  | false => exact hl sl
/-- entries without wildcards, with one, .. -/
theorem fit1 {f : Env → Rc} {a : T} {r : Rc} (h : f [.sh a] = r) : ∀ sl, Fits [.is a] sl → f sl = r := by
  rintro _ ⟨_, rfl, rfl⟩; exact h
theorem fit4 {f : Env → Rc} {a b c d : T} {r : Rc} (h : f [.sh a, .sh b, .sh c, .sh d] = r) : ∀ sl, Fits [.is a, .is b, .is c, .is d] sl → f sl = r := by
  rintro _ ⟨_, rfl, _, rfl, _, rfl, _, rfl, rfl⟩; exact h
theorem fit4a {f : Env → Rc} {a : T} {r : Rc} (h : ∀ x y z, f [.sh a, .sh x, .sh y, .sh z] = r) : ∀ sl, Fits [.is a, .any, .any, .any] sl → f sl = r := by
  rintro _ ⟨_, rfl, x, _, rfl, y, _, rfl, z, _, rfl, rfl⟩; exact h x y z
section
variable {P : Program} {w : World} {K : PySem.W.Frag} {mg : Str → Option Value} {base : Heap} {TB : List (Addr × Str)} {C : CT} {k np nl : Nat} {x name qual : Str} {params : Arguments} {body : List Stmt} {scope : Scope} {f : Addr} {fd : FuncData} {N ps : List Str} {fn : Env → Rc} {r : ES}
/-- a def, of the very object -/
theorem q_defO (F : FunD K name qual params body scope [] [] f fd) (S : FnScope N ps scope) (hfn : ∀ sl, fn sl = cond (Nat.beq sl.length np) (fin sl (r (sl ++ nos nl))) .bad) (hN : np + nl = N.length) (hp : ps.length = np)
    (hb : ∀ (cdv : Value) (A : Around) (outer : List PySem.Env) (s : Shared) (H : Hp) (E : XK), Cxt (cxOf (L2.CX P w) P w K mg base N qual scope f cdv A outer s H E) (fun cls d _ H' => E cls d H') k → PassesOwn (model P w) (cxOf (L2.CX P w) P w K mg base N qual scope f cdv A outer s H E).A (cxOf (L2.CX P w) P w K mg base N qual scope f cdv A outer s H E).env (cxOf (L2.CX P w) P w K mg base N qual scope f cdv A outer s H E).xe →
      sSs (cxOf (L2.CX P w) P w K mg base N qual scope f cdv A outer s H E) TB C (fun cls d _ H' => E cls d H') body r) : FnOk P w K mg base (L2.CX P w) (k + 1) f fd ps (spF K TB C fn) := by
  refine fn_ok (nl := nl) F S (by rw [hp]; exact hN) (fun sl => ?_) fun cdv A outer s H E hr => hb cdv A outer s H E (cxt_of S hr) (passes_of rfl)
  rw [← hN]; exact hf1 hfn sl
end
/-- the law's entry: the script as a tree -/
theorem law_entry {K : PySem.W.Frag} {TB : List (Addr × Str)} {C : CT} {fn : Env → Rc} {H : Hp} {a : Addr} {ns : List Int} (tb : LamX.Tabs TB H) (hs : SqL K H a (ns.map V.int)) (h1 : fn [.sh (.scr ns)] = .ret (.bl true) .s [.no]) (h2 : fn [.sh (.lst (ns.map T.int))] = .ret (.bl true) .s [.no]) :
    spF K TB C fn [.ref a] H (fun v _ => v = .bl true) fun _ _ _ => False := by
  have go : ∀ t : T, Rep K H (NG (fun _ => False) fun _ => none) t (.ref a) → fn [.sh t] = .ret (.bl true) .s [.no] → spF K TB C fn [.ref a] H (fun v _ => v = .bl true) fun _ _ _ => False := by
    intro t r e
    refine ⟨fun _ => False, fun _ => none, [.sh t], ⟨rfl, fun i => ?_, fun _ _ _ z => (by cases z), fun _ _ z => (by cases z), fun _ z => z.elim, tb⟩, ?_⟩
    · cases i with
      | zero => exact ⟨rfl, _, rfl, r⟩
      | succ i => exact rfl
    · rw [e]
      intro v H' O' _ vp
      exact (RRep.of vp.1).bl
  rcases hs with (h | ⟨o, h⟩) | h
  · refine go _ (.lst h (fun q => q.elim id fun ⟨_, z⟩ => by cases z) (.ofInts _)) h2
  · exact go _ (.scrH h fun q => q.elim id fun ⟨_, z⟩ => by cases z) h1
  · exact go _ (.scrK fun _ => .inr h) h1
end PB
end

section
set_option Elab.async false
set_option linter.all false
set_option maxRecDepth 100000
set_option maxHeartbeats 4000000
/-! Sound41: calls with a starred argument, what no run reaches, chained tests. -/
namespace PB
open PySem PySem.Spec PyProof.Rows L2
section
variable {X : Cx} {TB : List (Addr × Str)} {C : CT} {Wx : WX} {CX : CXT} {k j : Nat} {f : Addr} {x : Str} {e a b c : Expr} {es : List Expr} {p pos : Pos} {sp : Sp} {E : L2.St → XK} {ra rb rc : EV} {rl : EVs} {st : Stmt}
theorem pe_callRS {t : TA} (F : FnR X.prog X.w X.K X.mg X.base CX k f sp) (hr : Room k X.A) (hg : Gl X x) (hm : X.mg x = some (.ref f)) (hk : PySem.W.keepIn X.K (.ref f) = true) (hx : ∀ σ, PassesAt CX X σ (E σ)) (ha : PA X (e :: es) t)
    (hdb : (x == ("__debug__" : Str)) = false) (he : starEach (e :: es) X.env = (false, eval e X.env) :: starEach es X.env) (hst : (backTo pos (starEach es X.env)).any (·.1) = true) : PE X (.Call (.Name x p) (e :: es) [] pos) (tCallS sp E t) := by
  constructor
  intro pins s σ H Q I h
  apply wpAny_Call_Name_kw
  apply ld_glob I hg hm _ hdb
  have go := thn (ha.run pos pins s σ H _ I h) (Q' := fun us s1 => X.K.In s1.heap ∧ wpAny (model X.prog X.w) X.A (PySem.call (.ref f) ([] ++ us)) (EP X pins σ Q) X.xe s1) ?_
  · exact PySem.W.callWith_S2 (h₀ := X.base) I.ok.mod.kin hk go he hst
  rintro us s1 ⟨vs, H1, I1, r, q⟩
  refine ⟨I1.kIn, wpAny_call (codeAny_mono (F X.A X.stack s1 H1 us vs Q (E σ) hr I1.env0 r q) ?_)⟩
  intro out s' hq
  cases out with
  | error e => exact hx σ pins H1 s1 _ s' I1 hq
  | ok fl => cases fl <;> first | exact hq.elim | exact I1.after hq
theorem q_callvs {n : Nat} {fn : Env → Rc} (d : CalV X.prog X.w X.K X.mg X.base TB C j x n fn) (cx : Cxt X Wx k) (ha : PA X (e :: es) (tA X.K TB C Wx rl)) (hj : j ≤ k := by decide) (hg : Gl X x := by rfl) (hd : (x == ("__debug__" : Str)) = false := by decide)
    (he : starEach (e :: es) X.env = (false, eval e X.env) :: starEach es X.env := by rfl) (hst : (backTo pos (starEach es X.env)).any (·.1) = true := by rfl) : PE X (.Call (.Name x p) (e :: es) [] pos) (tE X.K TB C Wx (callvK fn n rl)) := by
  obtain ⟨f, F, hm, hk⟩ := d.ex
  exact (pe_callRS (E := fun σ cls d H' => Wx cls d σ H') F (cx.rm.mono hj) hg hm hk (fun σ => passAt cx.tk σ) ha hd he hst).mono fun σ H Q g => sem_callv g
/-- no run of the law comes here -/
theorem q_bad : PE X e (tE X.K TB C Wx badK) := ⟨fun pins s σ H Q I h => by
  obtain ⟨_, _, _, _, g⟩ := h
  exact g.elim⟩
theorem s_bad : sS X TB C Wx st badK := ⟨fun pins s σ H D I h => by
  obtain ⟨_, _, _, _, g⟩ := h
  exact g.elim⟩
theorem cmp2_bl {o o' : CO} {ρ ρ' : Env} {x : TK} (h : cmp2K o o' ra rb rc ρ = .ok x ρ') : ∃ b, x = ⟨.bl b, .s⟩ := by
  have h : (ra ρ).bind (fun x ρ => (rb ρ).bind fun y ρ => cmp2a o o' rc (val ρ x) ρ (val ρ y)) = .ok x ρ' := h
  cases ea : ra ρ with
  | ok u ρ1 =>
    rw [ea] at h
    have h : (rb ρ1).bind (fun y ρ => cmp2a o o' rc (val ρ u) ρ (val ρ y)) = .ok x ρ' := h
    cases eb : rb ρ1 with
    | ok y ρ2 =>
      rw [eb] at h
      have h : cmp2a o o' rc (val ρ2 u) ρ2 (val ρ2 y) = .ok x ρ' := h
      cases ey : val ρ2 y with
      | int j =>
        rw [ey] at h
        have h : cmp2b o' rc j ρ2 (cmp1 o (val ρ2 u) (.int j)) = .ok x ρ' := h
        cases e1 : cmp1 o (val ρ2 u) (.int j) with
        | none => rw [e1] at h; cases h
        | some r =>
          rw [e1] at h
          have h : cond r ((rc ρ2).bind fun z ρ => okB ρ (cmp1 o' (.int j) (val ρ z))) (.ok ⟨.bl false, .s⟩ ρ2) = .ok x ρ' := h
          cases r with
          | false => cases h; exact ⟨_, rfl⟩
          | true =>
            have h : (rc ρ2).bind (fun z ρ => okB ρ (cmp1 o' (.int j) (val ρ z))) = .ok x ρ' := h
            cases ec : rc ρ2 with
            | ok z ρ3 =>
              rw [ec] at h
              have h : okB ρ3 (cmp1 o' (.int j) (val ρ3 z)) = .ok x ρ' := h
              cases e2 : cmp1 o' (.int j) (val ρ3 z) with
              | none => rw [e2] at h; cases h
              | some b => rw [e2] at h; cases h; exact ⟨_, rfl⟩
            | exc c y => rw [ec] at h; cases h
            | bad => rw [ec] at h; cases h
      | _ => rw [ey] at h; cases h
    | exc c y => rw [eb] at h; cases h
    | bad => rw [eb] at h; cases h
  | exc c y => rw [ea] at h; cases h
  | bad => rw [ea] at h; cases h
theorem tE_bl {K : PySem.W.Frag} {r : EV} {σ : L2.St} {H : Hp} {Q : Bool → Hp → Prop} (hr : ∀ ρ x ρ', r ρ = .ok x ρ' → ∃ b, x = ⟨.bl b, .s⟩) (g : tT K TB C Wx (tvK r) σ H Q) : tE K TB C Wx r σ H fun v H1 => ∃ b, v = .bl b ∧ Q b H1 := by
  obtain ⟨W, O, ρ, en, g⟩ := g
  have g : Go TB C Wx (kdP K TB σ Bool) H W O ρ ((r ρ).bind fun x ρ => ofOpt (val ρ x).tru ρ) Q := g
  refine ⟨W, O, ρ, en, Go.first (k := kdV K TB σ) g fun x ρ1 v H1 O1 e p vp g1 => ?_⟩
  have vp : VPost K TB (nw H O ρ) H1 W O1 σ ρ1 x v := vp
  obtain ⟨b, rfl⟩ := hr _ _ _ e
  have g1 : Go TB C Wx (kdP K TB σ Bool) H1 W O1 ρ1 (.ok b ρ1) Q := g1
  exact ⟨b, (RRep.of vp.1).bl, g1 b H1 O1 Post.refl ⟨rfl, vp.env⟩⟩
theorem sem_chain {K : PySem.W.Frag} {σ : L2.St} {H : Hp} {Q : VK} (o o' : CO) (g : tE K TB C Wx (cmp2K o o' ra rb rc) σ H Q) : tChain (rCmp K (cmp1 o)) (rCmp K (cmp1 o')) (tE K TB C Wx ra) (tE K TB C Wx rb) (tE K TB C Wx rc) σ H Q := by
  refine two g fun W O ρ x y v u H2 en rx ry g => ?_
  have g : Go TB C Wx (kdV K TB σ) H2 W O ρ (cmp2a o o' rc (val ρ x) ρ (val ρ y)) Q := g
  cases ey : val ρ y with
  | int j =>
    rw [ey] at g ry
    have eu := ry.int
    have g : Go TB C Wx (kdV K TB σ) H2 W O ρ (cmp2b o' rc j ρ (cmp1 o (val ρ x) (.int j))) Q := g
    cases e1 : cmp1 o (val ρ x) (.int j) with
    | none => rw [e1] at g; exact g.elim
    | some r =>
      rw [e1] at g
      have g : Go TB C Wx (kdV K TB σ) H2 W O ρ (cond r ((rc ρ).bind fun z ρ => okB ρ (cmp1 o' (.int j) (val ρ z))) (.ok ⟨.bl false, .s⟩ ρ)) Q := g
      refine ⟨_, _, _, r, rx, ry, e1, r, rfl, ?_⟩
      cases r with
      | false => exact Go.resB (C := C) (Wx := Wx) en g
      | true =>
        show tE K TB C Wx rc σ H2 _
        have h : tR TB C Wx (kdV K TB σ) (fun ρ => (rc ρ).bind fun z ρ => okB ρ (cmp1 o' (.int j) (val ρ z))) H2 Q := ⟨W, O, ρ, en, g⟩
        refine one h fun W3 O3 ρ3 z w H3 en3 rz g3 => ?_
        obtain ⟨b', e2, q⟩ := Go.okB en3 g3
        subst eu
        exact ⟨_, .int j, _, b', .inl (.int j), rz, e2, q⟩
  | _ => rw [ey] at g; exact g.elim
theorem q_tchain {o o' : CO} {op op' : CmpOp} (cx : Cxt X Wx k) (ha : PE X a (tE X.K TB C Wx ra)) (hb : PE X b (tE X.K TB C Wx rb)) (hc : PE X c (tE X.K TB C Wx rc)) (ho : op = coOf o := by rfl) (ho' : op' = coOf o' := by rfl) (hm : lastMarks [op, op'] [b, c] = false := by rfl) :
    PT X (.Compare a [op, op'] [b, c] pos) (tT X.K TB C Wx (tvK (cmp2K o o' ra rb rc))) := by
  subst ho ho'
  exact (pt_chain (ok_cmp cx.u90 o) (ok_cmp cx.u90 o') ha hb hc hm).mono fun σ H Q g => sem_chain o o' (tE_bl (fun _ _ _ => cmp2_bl) g)
end
end PB
end

section
set_option Elab.async false
set_option linter.all false
set_option maxRecDepth 100000
set_option maxHeartbeats 4000000
/-! Sound42: an own exception class whose making says super().__init__(v); self.f = v. -/
namespace PB
open PySem PySem.Spec PyProof.Rows PySem.Calls PySem.W
section
variable {prog : Program} {w : World} {A : Around} {R : Result → Shared → Prop} {hp h2 : Heap} {g : Array GenState} {d : Drawn} {t : Nat} {os : OsState} {K : Frag} {B newId i : String} {bmB : List Value} {C D fI cc cda e t0 : Addr} {f v self qual : Str}
  {params : Arguments} {scope : Scope} {dV kV doc pm ct oc ccl cl : Value} {an od cdd cld : Option Addr} {osl ccs csl : Array (Option Value)} {mg mb : Str → Option Value} {p0 p1 p2 p3 p4 p5 p6 p7 p8 ap : Pos} {vs : Array Value} {file : Str} {tf : Tok} {u : Value} {ar : Arg} {cdD : ClassData}
theorem ns_one {hsh : Int} {k : Tok} {y : Str} : nsFind (#[⟨hsh, .str f k, u⟩] : Array DictEntry) y = if y = f then some u else none := by
  unfold nsFind findBy
  rw [List.find?_toArray, List.find?_cons]
  show Option.map _ (match (Value.str f k).isStr y with | true => _ | false => _) = _
  by_cases z : y = f
  · subst z
    rw [show (Value.str y k).isStr y = true from beq_self_eq_true y, if_pos rfl]; rfl
  · rw [show (Value.str f k).isStr y = false from beq_eq_false_iff_ne.mpr fun q => z q.symm, if_neg z]; rfl
theorem run_sup (FB : ExcBaseFacts B newId i bmB) (KF : KxsFacts B i) (SF : StoreFacts B bmB "object.__setattr__" "object")
    (qi : excInitIn K C bmB newId = true) (qo : excOver K C bmB = true) (hs : findIn K (.ref C) "__setattr__" = some (some (.builtin "object.__setattr__"))) (ht : takerIn K C f = some none) (hh : hasDictIn K C = true)
    (lk : K.lookup fI = some ⟨oc, od, .func (ksFn "__init__" qual params [.Expr (.Call (.Attribute (.Call (.Name "super" p0) [] [] p1) "__init__" ap) [.Name v p2] [] p3) p4, .Assign [.Attribute (.Name self p5) f p6] (.Name v p7) p8] scope dV kV doc pm an (.ref cda) ct cc), osl⟩)
    (hcd : codeIn K (.ref cda) qual = true) (hcode : K.lookup cda = some ⟨ccl, cdd, .fields vs, ccs⟩) (hvs : vs[2]? = some (.str file tf)) (hfile : ((prog.main.file : Str) == file) = true)
    (hcell : K.lookup cc = some ⟨cl, cld, .cell (some (.ref C)), csl⟩) (hD : clsIn K C = some cdD) (hsub : mroIn K C (.ref C) = some true) (hno : nsIn K cStatics "thirdparty.any" = some none)
    (hm : ks_superIn K C C "__init__" = some (some (.builtin i))) (hB : subIn K (.ref C) (.type B) = some true)
    (hpar : (params.posonlyargs ++ params.args).head? = some ar) (har : ar.arg = self)
    (hks : scope.names.lookup ("super" : Str) = some .globalImplicit) (hkc : scope.names.lookup ("__class__" : Str) = some .free) (hka : scope.names.lookup self = some .local) (hkv : scope.names.lookup v = some .local) (hk : scope.kind = .function)
    (hcells : ∀ x ∈ scope.names, x.2 ≠ .cell) (hco : scope.isCoroutine = false) (hgen : scope.isGenerator = false) (hsv : (v == self) = false) (hdv : (v == ("__debug__" : Str)) = false) (hds : (self == ("__debug__" : Str)) = false)
    (hbind : ∀ (s : Shared) (a b : Value), BindsTo s (ksFn "__init__" qual params [.Expr (.Call (.Attribute (.Call (.Name "super" p0) [] [] p1) "__init__" ap) [.Name v p2] [] p3) p4, .Assign [.Attribute (.Name self p5) f p6] (.Name v p7) p8] scope dV kV doc pm an (.ref cda) ct cc) ⟨[a, b], []⟩ [(self, a), (v, b)])
    (hev : ∀ env : PySem.Env, ∃ pl : Sem Bool, eval (.Call (.Attribute (.Call (.Name "super" p0) [] [] p1) "__init__" ap) [.Name v p2] [] p3) env = (do
      let ov ← attributeBase (.Call (.Name "super" p0) [] [] p1) "__init__" env (eval (.Call (.Name "super" p0) [] [] p1) env)
      standAt ap.atName
      let (f, first) ← holding [ov] (getMethod ov "__init__" pl)
      callWith p3 f first (backTo p3 (starEach [.Name v p2] env)) []))
    (hw1 : ∀ env : PySem.Env, swapsWith (.Call (.Attribute (.Call (.Name "super" p0) [] [] p1) "__init__" ap) [.Name v p2] [] p3) none p4.line env = pure false) (hw2 : ∀ env : PySem.Env, swapsWith (.Name v p7) (some (.Attribute (.Name self p5) f p6)) p8.line env = pure false)
    (htop : (prog.main.scope.names.lookup ("super" : Str)).isSome = false)
    (X₀ : K.In hp) (k2 : ∀ b o, hp.get? b = some o → h2.get? b = some o) (hsz : hp.objs.size ≤ h2.objs.size) (he : h2.get? e = some (excObj C t0 none .none)) (en : hp.get? e = none) (G : hp.Ns mainGlobals mg) (hmg : mg "super" = none) (Bn : hp.Ns builtinsNs mb)
    (hmb : mb "super" = some (.type "super")) (lim : h2.NoLimit) (room : A.depth < recursionLimit)
    (hq : ∀ dx h' t' t1, (∀ b o, hp.get? b = some o → h'.get? b = some o) → e < dx → h'.get? e = some (excObj C t1 (some dx) .none) → h'.Ns1 dx (fun y => if y = f then some u else none) → R (.ok (.ret .none)) ⟨h', g, d, t', os⟩) :
    codeAny (model prog w) A (.call (.ref fI) ⟨[.ref e, u], []⟩) R ⟨h2, g, d, t, os⟩ := by
  subst har
  refine ks_codeAny_call_defAt (fd := ksFn "__init__" qual params _ scope dV kV doc pm an (.ref cda) ct cc) room ((X₀.keeps k2) _ _ lk) rfl lim (codeRec_of (X₀.keeps k2) hcd) rfl (hbind _ _ _) hcells (fun x hx => ?_) (fun h₁ hns hk₁ => ?_) hco hgen hk
  · rcases List.mem_cons.mp hx with rfl | hx
    · exact hka
    · rcases List.mem_cons.mp hx with rfl | hx
      · exact hkv
      · cases hx
  have F : Fr hp h2.objs.size h₁ (fun y => [(ar.arg, Value.ref e), (v, u)].reverse.lookup y) := ⟨hns, fun b o z => hk₁ b o (k2 b o z), hsz⟩
  have N : News hp h2.objs.size h₁ [(e, excObj C t0 none .none)] := fun p hp => by
    rcases List.mem_cons.mp hp with rfl | hp
    · exact ⟨hk₁ _ _ he, Nat.ne_of_lt (Heap.lt_size he), en⟩
    · cases hp
  generalize ht1 : t + [(ar.arg, Value.ref e), (v, u)].length = t1
  have ms : ([(ar.arg, Value.ref e), (v, u)].reverse.lookup ar.arg) = some (.ref e) := by
    show ([(v, u), (ar.arg, Value.ref e)] : List (Str × Value)).lookup ar.arg = _
    rw [List.lookup_cons, List.lookup_cons, beq_self_eq_true]
    cases z : ar.arg == v with
    | false => rfl
    | true => rw [beq_iff_eq.mp z, beq_self_eq_true] at hsv; cases hsv
  have mv : ([(ar.arg, Value.ref e), (v, u)].reverse.lookup v) = some u := by
    show ([(v, u), (ar.arg, Value.ref e)] : List (Str × Value)).lookup v = _
    rw [List.lookup_cons, beq_self_eq_true]
  have X₁ : K.In h₁ := X₀.keeps F.keep
  have I0 : InstAt h₁ e (excObj C t0 none .none) C none := InstAt.of_exc0 N (List.mem_cons_self)
  obtain ⟨oD, hD1, hD2⟩ : ∃ oD, h₁.get? C = some oD ∧ oD.data = .cls cdD := by
    unfold clsIn at hD
    split at hD
    · rename_i c d cd' sl ho
      cases hD
      exact ⟨_, X₁ _ _ ho, rfl⟩
    · cases hD
  obtain ⟨pl, hev⟩ := hev (callEnv (ksFn "__init__" qual params _ scope dV kV doc pm an (.ref cda) ct cc) h2.objs.size fI)
  refine ks_wpAt_execs_cons (ks_wpAt_Expr_any (ks_wpAt_MethodCall (pl := pl) ?_ hev) ?_ (hw1 _))
  · refine ks_wpAt_super_base hks hkc (by decide) rfl (X₁ _ _ lk) rfl hpar rfl (X₁ _ _ hcode) rfl hvs hfile htop ?_
    refine ks_loadName_global hk hks (loadGlobal_builtin (G.keeps F.keep) hmg (Bn.keeps F.keep) hmb ⟨rfl, ?_⟩)
    refine wpAny_loadName_free hk hkc rfl ⟨_, X₁ _ _ hcell, rfl⟩ ?_
    refine wpAny_loadName_local hk hka F.ns ms ?_
    refine ks_wpAny_isType_cls hD1 hD2 ⟨rfl, ?_⟩
    refine ks_wpAny_call_super hD1 hD2 I0.at_ I0.cls (fun c z => ?_) (looks_mroIn X₁ hsub) (fun h₂ z k => ?_)
    · cases z
    obtain ⟨F2, N2, l2⟩ := ks_newsPush (s := ⟨h₁, g, d, t1, os⟩) F N rfl z k
    have I2 : InstAt h₂ e (excObj C t0 none .none) C none := InstAt.of_exc0 N2 (.tail _ List.mem_cons_self)
    refine kxs_method KF F2 X₀ N2 List.mem_cons_self I2 hno hm hB (by decide) fun q h₃ F3 N3 l3 => ?_
    refine kxs_callWith1 N3 List.mem_cons_self (PyProof.Rows.args_cons ?_ rfl) rfl rfl
    refine wpAny_Name (wpAny_loadName_local hk hkv F3.ns mv ?_) hdv
    refine PyProof.Rows.args_nil ⟨kxs_at N3 List.mem_cons_self, ?_⟩
    have ne1 : q ≠ e := fun y => Nat.lt_irrefl _ (by have := l3 (e, excObj C t0 none .none) (.tail _ List.mem_cons_self); rw [y] at this; exact this)
    have ne2 : h₁.objs.size ≠ e := fun y => Nat.lt_irrefl _ (by have := l2 (e, excObj C t0 none .none) List.mem_cons_self; rw [← y] at this; exact this)
    refine kxs_call F3 X₀ N3 FB qi List.mem_cons_self (.tail ne1 (.tail ne2 (.head fun _ hp => nomatch hp))) (show 1 ≤ sizeLine by decide) fun ta h₄ F4 N4 l4 => ?_
    refine ks_wpAt_execs_cons (ks_wpAt_Assign_Attr (wpAt_of_wpAny (wpAny_Name (wpAny_loadName_local hk hkv F4.ns mv ?_) hdv)) (hw2 _))
    refine wpAny_Name (wpAny_loadName_local hk hka F4.ns ms ?_) hds
    have ne3 : ta ≠ e := fun y => Nat.lt_irrefl _ (by have := l4 (e, excObj C t0 none .none) (.tail _ (.tail _ List.mem_cons_self)); rw [y] at this; exact this)
    refine set_exc0 SF F4 X₀ N4 (.tail _ (.tail _ (.tail _ List.mem_cons_self))) hs qo ht hh rfl (.tail ne3 (.tail ne1 (.tail ne2 (.head fun _ hp => nomatch hp)))) (show 1 ≤ 1000 by decide) fun dx h₅ F5 N5 l5 => ?_
    refine wpAt_of_wpAny (wpAny_execs_nil ?_)
    have me : (e, excObj C ta (some dx) .none) ∈ (dx, dictOf (putL f (PyData.keyHash w.params f) (.str f (t1 + 1 + 1)) u []) (putN f [] 0)) :: (ta, excTup [u]) :: (q, kxs_mw i e) :: (h₁.objs.size, ks_superObj C e C) :: [(e, excObj C ta (some dx) .none)] := .tail _ (.tail _ (.tail _ (.tail _ List.mem_cons_self)))
    refine hq dx h₅ _ ta F5.keep (l5 (e, excObj C ta none .none) (.tail _ (.tail _ (.tail _ List.mem_cons_self)))) (N5 _ me).1 ⟨_, _, _, (N5 _ List.mem_cons_self).1, rfl, ?_, ?_, fun y => ?_⟩
    · intro x hx
      rcases List.mem_singleton.mp (Array.mem_toArray.mp hx) with rfl
      exact ⟨f, _, rfl⟩
    · exact List.pairwise_singleton _ _
    · exact ns_one
  · show interactive _ = false
    unfold interactive
    rw [show (callEnv (ksFn "__init__" qual params [.Expr (.Call (.Attribute (.Call (.Name "super" p0) [] [] p1) "__init__" ap) [.Name v p2] [] p3) p4, .Assign [.Attribute (.Name ar.arg p5) f p6] (.Name v p7) p8] scope dV kV doc pm an (.ref cda) ct cc) h2.objs.size fI).scope.kind = .function from hk]
    rfl
end
end PB
end

section
set_option Elab.async false
set_option linter.all false
set_option maxRecDepth 100000
set_option maxHeartbeats 4000000
/-! Sound43: raising such an exception, over the layer. -/
namespace PB
open PySem PySem.Spec PyProof.Rows L2
/-- an own exception class with one field, as the layer wants it -/
structure SupC (P : Program) (w : World) (K : PySem.W.Frag) (mg : Str → Option Value) (C : Addr) (f : Str) : Prop where
  ex : ∃ (B newId i : String) (bmB : List Value) (fI : Addr), ExcBaseFacts B newId i bmB ∧ PySem.W.excInitIn K C bmB newId = true ∧ PySem.W.findIn K (.ref C) "__init__" = some (some (.ref fI)) ∧ PySem.W.typeIn K (.ref fI) = some (.type "function") ∧
    ∀ (A : Around) (R : Result → Shared → Prop) (hp h2 : Heap) (g : Array GenState) (d : Drawn) (t : Nat) (os : OsState) (e t0 : Addr) (mb : Str → Option Value) (u : Value), K.In hp → (∀ b o, hp.get? b = some o → h2.get? b = some o) → hp.objs.size ≤ h2.objs.size → h2.get? e = some (PySem.W.excObj C t0 none .none) → hp.get? e = none → hp.Ns mainGlobals mg → hp.Ns builtinsNs mb → mb "super" = some (.type "super") → h2.NoLimit → A.depth < recursionLimit →
      (∀ dx h' t' t1, (∀ b o, hp.get? b = some o → h'.get? b = some o) → e < dx → h'.get? e = some (PySem.W.excObj C t1 (some dx) .none) → h'.Ns1 dx (fun y => if y = f then some u else none) → R (.ok (.ret .none)) ⟨h', g, d, t', os⟩) →
      codeAny (model P w) A (.call (.ref fI) ⟨[.ref e, u], []⟩) R ⟨h2, g, d, t, os⟩
  exC : PySem.W.subIn K (.ref C) (.type "BaseException") = some true
  tyC : PySem.W.typeIn K (.ref C) = some (.type "type")
  kC : PySem.W.keepIn K (.ref C) = true
def tMkS (C : Addr) (f : Str) (ta : TA) : L2.St → Hp → XK → Prop := fun σ H Q => ta σ H fun vs H1 => ∃ y, vs = [y] ∧ ∀ d, H1 d = none → Q (.ref C) (some d) (upd H1 d (.xd [(f, y)]))
section
variable {X : Cx} {x f : Str} {C : Addr} {k : Nat} {e : Expr} {es : List Expr} {p pos : Pos} {ta : TA}
theorem pmk_sup (T : SupC X.prog X.w X.K X.mg C f) (hr : Room (k + 1) X.A) (hg : Gl X x) (hm : X.mg x = some (.ref C)) (ha : PA X (e :: es) ta)
    (hdb : (x == ("__debug__" : Str)) = false) (he : starEach (e :: es) X.env = (false, eval e X.env) :: starEach es X.env) (hpl : (backTo pos (starEach es X.env)).any (·.1) = false) :
    PMk X (.Call (.Name x p) (e :: es) [] pos) (tMkS C f ta) := by
  intro pins s σ H Q I h
  obtain ⟨B, newId, i, bmB, fI, FB, qi, iC, tI, run⟩ := T.ex
  refine wpAny_Call_Name_kw (ld_glob I hg hm ?_ hdb)
  refine PySem.W.callWith_K (h₀ := X.base) I.ok.mod.kin T.kC (thn (ha.run pos pins s σ H _ I h) fun us s1 ⟨vs, H1, I1, r1, y, ev, q1⟩ => ⟨I1.kIn, ?_⟩) he hpl
  subst ev
  obtain ⟨u, rfl, ry⟩ := vals1 r1
  obtain ⟨hp, g, dr, tk, os⟩ := s1
  obtain ⟨nm, N, qn, bs, bm, hdct, sn, sub, ab, col, dd, k0, k1, k2, k3, k5, hC, hT⟩ := PySem.W.excInit_of I1.kIn qi
  obtain ⟨mb, Bn, hmb⟩ := I1.ok.mod.blt
  show wpAny _ _ (PySem.call (.ref C) [u]) _ _ _
  refine wpAny_call (PySem.HandSPX.call_own FB hT hC (PySem.W.looks_findIn I1.kIn iC) (fun self => PySem.W.bind_fn I1.kIn self tI) (show 1 ≤ sizeLine by decide) ?_)
  have kk : ∀ b o, hp.get? b = some o → ((hp.push (PySem.W.kdv_tup [u])).push (PySem.HandSPX.excO C hp.objs.size)).get? b = some o := fun b o z => Heap.get?_push_of_some _ (Heap.get?_push_of_some _ z)
  have hsz : hp.objs.size ≤ hp.objs.size + 1 := Nat.le_succ _
  have hn : H1 (hp.objs.size + 1) = none := I1.hok.fresh hsz
  refine run _ _ hp _ g dr tk os (hp.objs.size + 1) hp.objs.size mb u I1.kIn kk (by rw [Heap.size_push, Heap.size_push]; omega) (by heap_get) (Heap.get?_none_of_le hsz) (I1.ok.mod.glob.keeps I1.bk) (Bn.keeps I1.bk) ((hmb _ (by decide)).trans rfl) (I1.nolimit.keeps kk) (hr.make C [u] []).depth fun dx h' t' t1 kp lt hx hns => ?_
  have hd1 : H1 dx = none := I1.hok.fresh (Nat.le_of_lt (Nat.lt_of_le_of_lt hsz lt))
  have hda : dx ≠ hp.objs.size + 1 := fun z => Nat.lt_irrefl _ (show hp.objs.size + 1 < hp.objs.size + 1 by rw [z] at lt; exact lt)
  clear run iC tI qi
  generalize ea : hp.objs.size + 1 = a at *
  have noa : ∀ {b : Addr} {o : HO}, H1 b = some o → b ≠ a := fun z => ne_of_none z hn
  have nod : ∀ {b : Addr} {o : HO}, H1 b = some o → b ≠ dx := fun z => ne_of_none z hd1
  refine ⟨rfl, ?_⟩
  have un : Un (frs X.stack) [] (upd H1 a (exo a C none)) (upd (upd H1 dx (exd dx [(f, y)])) a (exo a C (some dx))) hp h' := {
    keep := fun b o z n _ _ => kp b o z
    slot := fun b o z n _ _ => ⟨o.slots, kp b o z⟩
    free := fun b o z n _ => by
      have hb : b ≠ a := fun q => by
        rw [q, upd_same] at n
        cases n
      have hb2 : b ≠ dx := fun q => Nat.lt_irrefl _ (Nat.lt_of_lt_of_le (by rw [← q]; exact Heap.lt_size z) (Nat.le_of_lt (Nat.lt_of_le_of_lt hsz lt)))
      rw [upd_ne hb] at n
      rw [upd_ne hb, upd_ne hb2]
      exact n
    there := fun b o z _ => ⟨o, kp b o z⟩
    tups := fun b xs z => by
      by_cases hb : b = a
      · rw [hb, upd_same] at z
        exact absurd (Option.some.inj z) exo_tup
      · rw [upd_ne hb] at z
        rw [upd_ne hb, upd_ne (nod z)]; exact z
    frzs := fun b o v z => by
      by_cases hb : b = a
      · rw [hb, upd_same] at z
        exact absurd (Option.some.inj z) exo_frz
      · rw [upd_ne hb] at z
        rw [upd_ne hb, upd_ne (nod z)]; exact z
    tbls := fun b ps z => by
      by_cases hb : b = a
      · rw [hb, upd_same] at z
        exact absurd (Option.some.inj z) exo_tbl
      · rw [upd_ne hb] at z
        exact ⟨#[], by rw [upd_ne hb, upd_ne (nod z), z, Array.append_empty]⟩ }
  have hd2 : upd (upd H1 dx (exd dx [(f, y)])) a (exo a C (some dx)) dx = some (exd dx [(f, y)]) := by rw [upd_ne hda, upd_same]
  have fin : upd (del (upd (upd H1 dx (exd dx [(f, y)])) a (exo a C (some dx))) a) dx (.xd [(f, y)]) = upd H1 dx (.xd [(f, y)]) := by
    funext b
    by_cases hb : b = dx
    · rw [hb, upd_same, upd_same]
    · rw [upd_ne hb, upd_ne hb]
      by_cases hb2 : b = a
      · rw [hb2, del_same, hn]
      · rw [del_ne hb2, upd_ne hb2, upd_ne hb]
  refine mk_end (hp2 := hp) (fs := [(f, y)]) (raises_own T.exC T.tyC) I1 hsz (fun _ _ z => z) un (fun b o z => ?_) rfl I1.bare upd_same hd2 hd1 (by rw [fin]; exact q1 dx hd1)
  by_cases hb : b = a
  · subst hb
    rw [upd_same] at z
    cases z
    exact exo_ok hx
  · rw [upd_ne hb] at z
    by_cases hb2 : b = dx
    · subst hb2
      rw [upd_same] at z
      cases z
      exact exd_ok hns (relO_put (fs := []) ry fun g => True.intro)
    · rw [upd_ne hb2] at z
      exact (I1.hok b o z).stay (fun c v hc q => kp c v q) (fun c hc => by rw [upd_ne (noa hc), upd_ne (nod hc)]; exact hc) fun c xs hc => by rw [upd_ne (noa hc), upd_ne (nod hc)]; exact hc
end
end PB
end

section
set_option Elab.async false
set_option linter.all false
set_option maxRecDepth 100000
set_option maxHeartbeats 4000000
/-! Sound44: raise C(v), C with a field. -/
namespace PB
open PySem PySem.Spec PyProof.Rows L2
section
variable {K : PySem.W.Frag} {TB : List (Addr × Str)} {C : CT} {Wx : WX} {H : Hp} {σ : L2.St}
theorem sem_rsef {c : Nat} {Ca : Addr} {f : Str} {re : EV} {D : Ends} (hC : C c = (.ref Ca, some f)) (g : tS K TB C Wx (rseK c re) D σ H) : tE K TB C Wx re σ H fun v H1 => ∃ y, [v] = [y] ∧ ∀ d, H1 d = none → Wx (.ref Ca) (some d) σ (upd H1 d (.xd [(f, y)])) := by
  obtain ⟨W, O, ρ, en, g⟩ := g
  refine ⟨W, O, ρ, en, SGo.firstE g fun x ρ1 v H1 O1 e p vp g1 => ?_⟩
  have vp : VPost K TB (nw H O ρ) H1 W O1 σ ρ1 x v := vp
  refine ⟨v, rfl, fun d hd => ?_⟩
  have nd : ∀ {b : Addr} {o : HO}, H1 b = some o → b ≠ d := fun z => ne_of_none z hd
  have gr : Grow H1 (upd H1 d (.xd [(f, v)])) := fun b o z => by rw [upd_ne (nd z)]; exact z
  cases eg : giv1 x with
  | none =>
    have g1 : SGo K TB C Wx no1 H W O ρ σ (match giv1 x with | some t => .exc c t | none => .bad) (FG K TB (nw H O ρ) W D) := g1
    rw [eg] at g1
    exact g1.elim
  | some t =>
    have g1 : SGo K TB C Wx no1 H W O ρ σ (match giv1 x with | some t => .exc c t | none => .bad) (FG K TB (nw H O ρ) W D) := g1
    rw [eg] at g1
    have r := vp.giv1 Post.refl eg
    have q := g1 (.ref Ca) (some d) σ (upd H1 d (.xd [(f, v)])) ⟨by rw [hC], ?_, fun b o z n z2 => gr b o (p.keep b o z n z2), fun q hq => (vp.env.tab q hq).ext gr, fun b o z z2 => ?_⟩
    · exact q
    · unfold PayRep
      rw [hC]
      exact ⟨d, v, rfl, upd_same, (r.grow gr).weak fun b w => .inl w⟩
    · obtain ⟨o', e', z'⟩ := p.per b o z z2
      exact ⟨o', gr b o' e', z'⟩
end
/-- a class with a field that is raised -/
structure RaiF (P : Program) (w : World) (K : PySem.W.Frag) (mg : Str → Option Value) (C : CT) (x : Str) (n : Nat) : Prop where
  ex : ∃ (a : Addr) (f : Str), SupC P w K mg a f ∧ mg x = some (.ref a) ∧ C n = (.ref a, some f)
section
variable {X : Cx} {TB : List (Addr × Str)} {C : CT} {Wx : WX} {k : Nat} {x : Str} {e : Expr} {re : EV} {p pos pos' : Pos}
theorem q_rsef {n : Nat} (r : RaiF X.prog X.w X.K X.mg C x n) (c : Cxt X Wx k) (ha : PE X e (tE X.K TB C Wx re)) (hk : 1 ≤ k := by decide) (hg : Gl X x := by rfl) (hdb : (x == ("__debug__" : Str)) = false := by decide)
    (he : ∀ es, starEach (e :: es) X.env = (false, eval e X.env) :: starEach es X.env := by intro _; rfl) : sS X TB C Wx (.Raise (some (.Call (.Name x p) [e] [] pos)) none pos') (rseK n re) := by
  obtain ⟨a, f, T, hm, hC⟩ := r.ex
  refine (ps_raise c.cm c.tk (pmk_sup (k := 0) T (c.rm.mono hk) hg hm (pa_cons ha pa_nil (he _)) hdb (he _) rfl)).mono fun D σ H g => ?_
  exact sem_rsef hC g
end
end PB
end

section
set_option Elab.async false
set_option linter.all false
set_option maxRecDepth 100000
set_option maxHeartbeats 4000000
/-! Sound45: except C as e: return ('word', e.f). -/
namespace PB
open PySem PySem.Spec PyProof.Rows L2
/-- the suite: a word and the field -/
def fldK (i : Nat) (z : List Nat) (x : T) : ES := fun ρ => cond (Nat.blt i ρ.length) (retK (tupK (consK (cK (.str z)) (consK (cK x) nilK))) ρ) .bad
def tFld (a : Addr) (cls : Value) (d : Option Addr) (Ca : Addr) (f : Str) (i : Nat) (z : Str) : TS := tRet (tTupF (tCons (L2.tC (.str z)) (tCons (tXf a cls d Ca f (tVar i)) tNil)))
def wF1 (K : PySem.W.Frag) (Ca : Addr) (f : Str) (cv : Value) (i : Nat) (z : Str) (w : Ends → WX) : Ends → WX := fun D cls d σ H => ∃ b, PySem.W.exmOne K cls cv = some b ∧ (b = true → ∀ a, H a = none → tFld a cls d Ca f i z (goneD D i) (σ.set i (some (.ref a))) H) ∧ (b = false → w D cls d σ H)
section
variable {X : Cx} {x n f z : Str} {i jj kk : Nat} {c : Value} {Ca : Addr} {np p1 p2 p3 p4 p5 pos' : Pos} {rest : List ExceptHandler} {w : Ends → WX}
theorem q_hf (hc : Names X x c) (hN : X.N.Nodup) (T : XfC X.K Ca) (hno : PySem.W.findIn X.K (.ref Ca) f = some none) (r : HOk X rest w) (hf : X.env.frame = some X.env.locals := by rfl) (hi : X.N[i]? = some n := by rfl) (hln : X.env.kindOf n = some .local := by rfl) (hv : Vis X.env.scope n := by first | exact .inl rfl | exact .inr (.inl rfl) | exact .inr (.inr rfl))
    (hd : (n == ("__debug__" : Str)) = false := by decide) (hcd : (n == ("__classdict__" : Str)) = false := by decide)
    (hb : ∀ env, attributeBase (.Name n p2) f env (eval (.Name n p2) env) = eval (.Name n p2) env := by intro _; rfl)
    (hs1 : ∀ env, starEach [.Constant (.str z) jj p1, .Attribute (.Name n p2) f p3] env = (false, eval (.Constant (.str z) jj p1) env) :: starEach [.Attribute (.Name n p2) f p3] env := by intro _; rfl)
    (hs2 : ∀ env, starEach [.Attribute (.Name n p2) f p3] env = (false, eval (.Attribute (.Name n p2) f p3) env) :: starEach [] env := by intro _; rfl) :
    HOk X (.ExceptHandler (some (.Name x np)) (some n) [.Return (some (.Tuple [.Constant (.str z) jj p1, .Attribute (.Name n p2) f p3] kk p4)) p5] pos' :: rest) (wF1 X.K Ca f c i z w) :=
  hok_as (ts := fun a cls d => tFld a cls d Ca f i z) hf hN hi hln hc (fun a oe cls d pn hz hfv => pss_one (ps_ret (pe_tupF (pa_cons pe_str (pa_cons (pe_xf T hno hz hfv (pe_var hi hv hd hcd) (hb _)) pa_nil (hs2 _)) (hs1 _))))) r
end
section
variable {K : PySem.W.Frag} {TB : List (Addr × Str)} {C : CT} {c' i : Nat} {cv : Value} {z : List Nat} {Ca : Addr} {f : Str} {r : EH} {w : Ends → WX}
theorem q_sf (hx : ∀ c, PySem.W.exmOne K (C c).1 cv = some (Nat.beq c c')) (hC : C c' = (.ref Ca, some f)) (hr : hSem K TB C wF w r) : hSem K TB C wF (wF1 K Ca f cv i (toStr z) w) (hdK c' (fldK i z) r) := by
  intro D c x cls d H W O ρ σ σ' H' en hm xp hl g
  replace g : SGo K TB C wF no1 H W O ρ σ (cond (Nat.beq c c') (noX (fldK i z x (nos ρ.length))) (r c x (nos ρ.length))) (FG K TB (nw H O ρ) W D) := g
  refine ⟨Nat.beq c c', by rw [xp.cls]; exact hx c, fun e a ha => ?_, fun e => ?_⟩
  · rw [e] at g
    replace g : SGo K TB C wF no1 H W O ρ σ (noX (cond (Nat.blt i (nos ρ.length).length) (retK (tupK (consK (cK (.str z)) (consK (cK x) nilK))) (nos ρ.length)) .bad)) (FG K TB (nw H O ρ) W D) := g
    have ec := Nat.eq_of_beq_eq_true e
    rw [ec] at xp
    have pay := xp.pay
    unfold PayRep at pay
    rw [hC] at pay
    obtain ⟨dd, v, ed, ea, rv⟩ := pay
    have hi : i < σ'.length := by
      cases e2 : Nat.blt i (nos ρ.length).length with
      | true => have := Nat.blt_eq.mp e2; rw [nos_len, en.len, ← hl] at this; exact this
      | false =>
        rw [e2] at g
        exact g.elim
    replace g : SGo K TB C wF no1 H W O ρ σ (.ok (.ret (.tpd [.str z, x]) .s) (nos ρ.length)) (FG K TB (nw H O ρ) W D) := by
      cases e2 : Nat.blt i (nos ρ.length).length with
      | true => rw [e2] at g; exact g
      | false => rw [e2] at g; exact g.elim
    refine ⟨.ref a, by rw [List.getElem?_set_self hi], rfl, by rw [xp.cls, hC], dd, _, v, ed, ea, by simp [List.lookup], ?_⟩
    refine ⟨show 2 ≤ sizeLine by decide, fun p o hp hd => ?_⟩
    have gr : Grow H' (upd H' p (.frz o (.tup [.str (toStr z), v]))) := Grow.upd hp
    have may := allMay_at hm
    have en' : EnvRep K TB (upd H' p (.frz o (.tup [.str (toStr z), v]))) W (fun _ => none) σ' (nos ρ.length) := by
      refine ⟨by rw [nos_len, en.len, hl], fun i => ?_, fun i j a e => (by cases e), fun i a e => (by cases e), fun a w => ?_, fun q hq => (xp.tab q hq).ext gr⟩
      · rw [slotAt_nos]; rfl
      · obtain ⟨o, e, z⟩ := en.wt a w
        obtain ⟨o', e', z'⟩ := xp.per a o e z
        exact ⟨o', gr a o' e', z'⟩
    have sp : SPost no1 H O ρ σ (upd H' p (.frz o (.tup [.str (toStr z), v]))) (fun _ => none) (nos ρ.length) σ' := by
      refine ⟨fun i a e => (by cases e), fun b o e n z => gr b o (xp.keep b o e n z), fun b o e z => ?_, fun b ⟨i, _, _, e, _⟩ => (by cases e), fun i e => ?_, hl, fun i t e => ?_⟩
      · obtain ⟨o', e', z'⟩ := xp.per b o e z
        exact ⟨o', gr b o' e', z'⟩
      · rw [may i] at e; cases e
      · have := may i
        rw [e] at this; cases this
    have ng : ∀ b, NG W (fun _ => none) b → W b := fun b q => q.elim id fun ⟨_, z⟩ => by cases z
    exact g σ' _ (fun _ => none) sp en' (.ref p) ⟨.tpd upd_same hd (.cons (.str z) (.cons ((rv.grow gr).weak ng) .nil)), en'⟩
  · rw [e] at g
    exact hr D c x cls d H W O ρ σ σ' H' en hm xp hl g
end
end PB
end

section
set_option Elab.async false
set_option linter.all false
set_option maxRecDepth 100000
set_option maxHeartbeats 4000000
/-! Sound46: the head's facts of such classes. -/
namespace PB
open PySem PySem.Spec PyProof.Rows L2
/-- the class x, over the built-in B, its field f, the file's name, its __init__'s qualified name -/
structure SupD where
  x : Str
  B : String
  newId : String
  i : String
  bm : List Value
  f : Str
  file : Str
  qual : Str
abbrev FnC : Type := Option (Str × Str × Arguments × FuncBody × Scope × Addr × List Str × Addr)
def fnC (K : PySem.W.Frag) (a : Addr) : FnC := match K.lookup a with
  | some ⟨_, _, .func fd, _⟩ => some (fd.name, fd.qualname, fd.params, fd.body, fd.scope, fd.globals, fd.closure.map (·.1), fd.builtins)
  | _ => none
def cellB (K : PySem.W.Frag) (C fI : Addr) : Bool := match K.lookup fI with
  | some ⟨_, _, .func fd, _⟩ => (match fd.closure with
    | [(_, cc)] => (match K.lookup cc with
      | some ⟨_, _, .cell (some (.ref D)), _⟩ => Nat.beq D C
      | _ => false)
    | _ => false)
  | _ => false
def txtIs (z : Str) : Option Value → Bool
  | some (.str y _) => z == y
  | _ => false
theorem txtIs_ok {z : Str} {u : Option Value} (h : txtIs z u = true) : ∃ y t, u = some (.str y t) ∧ (z == y) = true := by
  unfold txtIs at h
  split at h
  · exact ⟨_, _, rfl, h⟩
  · cases h
def codeB (K : PySem.W.Frag) (fI : Addr) (qual file : Str) : Bool := match K.lookup fI with
  | some ⟨_, _, .func fd, _⟩ => (match fd.code with
    | .ref c => PySem.W.codeIn K (.ref c) qual && (match K.lookup c with
      | some ⟨_, _, .fields vs, _⟩ => txtIs file vs[2]?
      | _ => false)
    | _ => false)
  | _ => false
def noDf (K : PySem.W.Frag) (fI : Addr) : Bool := match K.lookup fI with
  | some ⟨_, _, .func fd, _⟩ => (match fd.defaults with
    | .none => true
    | _ => false)
  | _ => false
def supB (K : PySem.W.Frag) (d : SupD) : Bool :=
  PySem.W.excInitIn K (He.ga K d.x) d.bm d.newId && (PySem.W.excOver K (He.ga K d.x) d.bm && (He.eqO (PySem.W.findIn K (.ref (He.ga K d.x)) "__setattr__") (some (some (.builtin "object.__setattr__"))) && (He.eqO (PySem.W.findIn K (.ref (He.ga K d.x)) d.f) (some none) && (PySem.W.hasDictIn K (He.ga K d.x) &&
  (He.eqO (PySem.W.findIn K (.ref (He.ga K d.x)) "__init__") (some (some (.ref (He.ma K (He.ga K d.x) "__init__")))) && (decide (PySem.W.typeIn K (.ref (He.ma K (He.ga K d.x) "__init__")) = some (.type "function")) && (He.eqO (PySem.W.nsIn K cStatics "thirdparty.any") (some none) &&
  (He.eqO (PySem.W.ks_superIn K (He.ga K d.x) (He.ga K d.x) "__init__") (some (some (.builtin d.i))) && (decide (PySem.W.subIn K (.ref (He.ga K d.x)) (.type d.B) = some true) && (decide (PySem.W.mroIn K (He.ga K d.x) (.ref (He.ga K d.x)) = some true) && (decide (PySem.W.subIn K (.ref (He.ga K d.x)) (.type "BaseException") = some true) &&
  (decide (PySem.W.typeIn K (.ref (He.ga K d.x)) = some (.type "type")) && (PySem.W.keepIn K (.ref (He.ga K d.x)) && (He.eqO (PySem.W.nsIn K mainGlobals "super") (some none) && (xfB K (He.ga K d.x) && (cellB K (He.ga K d.x) (He.ma K (He.ga K d.x) "__init__") && (codeB K (He.ma K (He.ga K d.x) "__init__") d.qual d.file && noDf K (He.ma K (He.ga K d.x) "__init__"))))))))))))))))))
/-- what is looked at -/
def supO (K : PySem.W.Frag) (d : SupD) : Bool × FnC := (supB K d, fnC K (He.ma K (He.ga K d.x) "__init__"))
section
variable {P : Program} {w : World} {K : PySem.W.Frag} {mg : Str → Option Value} {h : Heap} {d : SupD} {self v : Str} {params : Arguments} {scope : Scope} {p0 p1 p2 p3 p4 p5 p6 p7 p8 ap : Pos} {ar : Arg}
theorem supc_of (FB : ExcBaseFacts d.B d.newId d.i d.bm) (KF : PySem.W.KxsFacts d.B d.i) (SF : StoreFacts d.B d.bm "object.__setattr__" "object") (X : K.In h) (G : h.Ns mainGlobals mg)
    (e : supO K d = (true, some (("__init__" : Str), d.qual, params, FuncBody.stmts [.Expr (.Call (.Attribute (.Call (.Name "super" p0) [] [] p1) "__init__" ap) [.Name v p2] [] p3) p4, .Assign [.Attribute (.Name self p5) d.f p6] (.Name v p7) p8], scope, mainGlobals, (["__class__"] : List Str), builtinsNs)))
    (hfile : ((P.main.file : Str) == d.file) = true)
    (hpar : (params.posonlyargs ++ params.args).head? = some ar) (har : ar.arg = self)
    (hks : scope.names.lookup ("super" : Str) = some .globalImplicit) (hkc : scope.names.lookup ("__class__" : Str) = some .free) (hka : scope.names.lookup self = some .local) (hkv : scope.names.lookup v = some .local) (hk : scope.kind = .function)
    (hcells : ∀ x ∈ scope.names, x.2 ≠ .cell) (hco : scope.isCoroutine = false) (hgen : scope.isGenerator = false) (hsv : (v == self) = false) (hdv : (v == ("__debug__" : Str)) = false) (hds : (self == ("__debug__" : Str)) = false)
    (hbind : ∀ (kV doc pm : Value) (an : Option Addr) (cdv ct : Value) (cc : Addr) (s : Shared) (a b : Value), BindsTo s (PySem.W.ksFn "__init__" d.qual params [.Expr (.Call (.Attribute (.Call (.Name "super" p0) [] [] p1) "__init__" ap) [.Name v p2] [] p3) p4, .Assign [.Attribute (.Name self p5) d.f p6] (.Name v p7) p8] scope .none kV doc pm an cdv ct cc) ⟨[a, b], []⟩ [(self, a), (v, b)])
    (hev : ∀ env : PySem.Env, ∃ pl : Sem Bool, eval (.Call (.Attribute (.Call (.Name "super" p0) [] [] p1) "__init__" ap) [.Name v p2] [] p3) env = (do
      let ov ← attributeBase (.Call (.Name "super" p0) [] [] p1) "__init__" env (eval (.Call (.Name "super" p0) [] [] p1) env)
      standAt ap.atName
      let (f, first) ← holding [ov] (getMethod ov "__init__" pl)
      callWith p3 f first (backTo p3 (starEach [.Name v p2] env)) []))
    (hw1 : ∀ env : PySem.Env, swapsWith (.Call (.Attribute (.Call (.Name "super" p0) [] [] p1) "__init__" ap) [.Name v p2] [] p3) none p4.line env = pure false) (hw2 : ∀ env : PySem.Env, swapsWith (.Name v p7) (some (.Attribute (.Name self p5) d.f p6)) p8.line env = pure false)
    (htop : (P.main.scope.names.lookup ("super" : Str)).isSome = false) :
    SupC P w K mg (He.ga K d.x) d.f ∧ XfC K (He.ga K d.x) ∧ PySem.W.findIn K (.ref (He.ga K d.x)) d.f = some none := by
  have e1 : supB K d = true := congrArg Prod.fst e
  have e2 : fnC K (He.ma K (He.ga K d.x) "__init__") = some (("__init__" : Str), d.qual, params, FuncBody.stmts [.Expr (.Call (.Attribute (.Call (.Name "super" p0) [] [] p1) "__init__" ap) [.Name v p2] [] p3) p4, .Assign [.Attribute (.Name self p5) d.f p6] (.Name v p7) p8], scope, mainGlobals, (["__class__"] : List Str), builtinsNs) := congrArg Prod.snd e
  obtain ⟨a1, e1⟩ := He.ba e1
  obtain ⟨a2, e1⟩ := He.ba e1
  obtain ⟨a3, e1⟩ := He.ba e1
  obtain ⟨a4, e1⟩ := He.ba e1
  obtain ⟨a5, e1⟩ := He.ba e1
  obtain ⟨a6, e1⟩ := He.ba e1
  obtain ⟨a7, e1⟩ := He.ba e1
  obtain ⟨a8, e1⟩ := He.ba e1
  obtain ⟨a9, e1⟩ := He.ba e1
  obtain ⟨b1, e1⟩ := He.ba e1
  obtain ⟨b2, e1⟩ := He.ba e1
  obtain ⟨b3, e1⟩ := He.ba e1
  obtain ⟨b4, e1⟩ := He.ba e1
  obtain ⟨b5, e1⟩ := He.ba e1
  obtain ⟨b6, e1⟩ := He.ba e1
  obtain ⟨b7, e1⟩ := He.ba e1
  obtain ⟨b8, e1⟩ := He.ba e1
  obtain ⟨b9, bz⟩ := He.ba e1
  have f4 := He.eqO_ok a4
  refine ⟨⟨⟨d.B, d.newId, d.i, d.bm, _, FB, a1, He.eqO_ok a6, of_decide_eq_true a7, ?_⟩, of_decide_eq_true b3, of_decide_eq_true b4, b5⟩, xfB_ok b7, f4⟩
  generalize hfI : He.ma K (He.ga K d.x) "__init__" = fI at *
  have e3 := e2
  unfold fnC at e3
  unfold cellB at b8
  unfold codeB at b9
  unfold noDf at bz
  cases lk : K.lookup fI with
  | none => rw [lk] at e3; cases e3
  | some o =>
    obtain ⟨oc, od, dt, osl⟩ := o
    rw [lk] at e3 b8 b9 bz
    cases dt with
    | func fd =>
      obtain ⟨name, qualname, pms, body, scp, globals, closure, dV, kV, doc, pm, an, code, ct, bns⟩ := fd
      have e4 := Option.some.inj e3
      injection e4 with c1 e4
      injection e4 with c2 e4
      injection e4 with c3 e4
      injection e4 with c4 e4
      injection e4 with c5 e4
      injection e4 with c6 e4
      injection e4 with c7 c8
      dsimp only at c1 c2 c3 c4 c5 c6 c7 c8 b8 b9 bz
      have eDf : dV = .none := by cases dV <;> first | rfl | cases bz
      subst eDf
      subst c1 c2 c3 c4 c5 c6 c8
      cases closure with
      | nil => cases c7
      | cons q r =>
        cases r with
        | cons _ _ => exact absurd (congrArg List.length c7) (by simp)
        | nil =>
          obtain ⟨cn, cc⟩ := q
          have c9 : cn = "__class__" := (List.cons.inj c7).1
          subst c9
          cases code with
          | ref cda =>
            obtain ⟨b9, b10⟩ := He.ba b9
            replace b8 : (match K.lookup cc with
              | some ⟨_, _, .cell (some (.ref D)), _⟩ => Nat.beq D (He.ga K d.x)
              | _ => false) = true := b8
            cases hcc : K.lookup cc with
            | none => rw [hcc] at b8; cases b8
            | some oc2 =>
              obtain ⟨ccl, cdd, cdt, ccs⟩ := oc2
              rw [hcc] at b8
              cases cdt with
              | cell cv =>
                cases cv with
                | none => cases b8
                | some cvv =>
                  cases cvv with
                  | ref D =>
                    have eD : D = He.ga K d.x := Nat.eq_of_beq_eq_true b8
                    subst eD
                    cases hcd : K.lookup cda with
                    | none => rw [hcd] at b10; cases b10
                    | some oc3 =>
                      obtain ⟨dcl, ddd, ddt, dcs⟩ := oc3
                      rw [hcd] at b10
                      cases ddt with
                      | fields vs =>
                        obtain ⟨y, tf, hy, hz⟩ := txtIs_ok b10
                        have eY : y = d.file := (beq_iff_eq.mp hz).symm
                        subst eY
                        obtain ⟨cdD, hD⟩ : ∃ cdD, PySem.W.clsIn K (He.ga K d.x) = some cdD := by
                          cases z : PySem.W.clsIn K (He.ga K d.x) with
                          | some c => exact ⟨c, rfl⟩
                          | none =>
                            have b2' := of_decide_eq_true b2
                            unfold PySem.W.mroIn at b2'
                            rw [z] at b2'
                            cases b2'
                        intro A R hp h2 g dr t os e t0 mb u X₀ k2 hsz he en G' Bn hmb lim room hq
                        exact run_sup FB KF SF a1 a2 (He.eqO_ok a3) (by unfold PySem.W.takerIn; rw [f4]; rfl) a5 lk b9 hcd hy hfile hcc hD (of_decide_eq_true b2) (He.eqO_ok a8) (He.eqO_ok a9) (of_decide_eq_true b1) hpar har hks hkc hka hkv hk hcells hco hgen hsv hdv hds
                          (hbind _ _ _ _ _ _ _) hev hw1 hw2 htop X₀ k2 hsz he en G' (PySem.W.mg_none_of X G (He.eqO_ok b6)) Bn hmb lim room hq
                      | _ => cases b10
                  | _ => cases b8
              | _ => cases b8
          | _ => cases b9
    | _ => cases e3
end
end PB
end

section
set_option Elab.async false
set_option linter.all false
set_option maxRecDepth 100000
set_option maxHeartbeats 400000
/-! Sound47: sum(lists, []). -/
namespace PB
open PySem PySem.Spec PyProof.Rows PySem.Calls
section
variable {prog : Program} {w : World} {A : Around} {E : Value → Shared → Prop} {R : Result → Shared → Prop} {s : Shared}
theorem args_sum2 (a b : Value) : argsOk "sum" ⟨[a, b], []⟩ := by unfold argsOk; kernel_rfl
/-- two lists joined, the heap told -/
theorem join_lists {l b : Addr} {vs ws : Array Value} {Q : Value → Shared → Prop} (hl : s.heap.IsList l vs) (hb : s.heap.IsList b ws) (hsz : vs.size + ws.size ≤ sizeLine)
    (h : Q (.ref s.heap.objs.size) { s with heap := s.heap.push { cls := .type "list", data := .seq (vs ++ ws) } }) : wpAny (model prog w) A (binaryOp .Add (.ref l) (.ref b)) Q E s := by
  obtain ⟨⟨c1, d1, da1, s1⟩, g1, rfl, n1, rfl⟩ := hl
  obtain ⟨⟨c2, d2, da2, s2⟩, g2, rfl, n2, rfl⟩ := hb
  exact concat_meets ⟨_, g1, rfl⟩ ⟨_, g2, rfl⟩ noFill_list_add seq_list_add PySem.F.slot_list_add PySem.F.entry_list_add (PySem.F.args_list_add_2 _ _) (list_addW l b vs ws n1 n2 d1 d2 s1 s2 hsz) ⟨g1, g2, h⟩
/-- what the first i lists hold -/
def upTo (xs : Nat → Array Value) : Nat → Array Value
  | 0 => #[]
  | i + 1 => upTo xs i ++ xs i
theorem sum_lists_loop {I S : Addr} {fp wr : List Addr} {n : Nat} {P : Nat → Value → Prop} {St : Nat → Heap → Prop} (W : Walks prog w A.in1 I fp wr n P St) (xs : Nat → Array Value) (h0 : Heap) (hw : ∀ b o, h0.get? b = some o → b ∉ wr) (hS0 : h0.objs.size ≤ S) (hSf : S ∉ fp) (hI : ∀ i h, St i h → ∀ b ∈ wr, b < h.objs.size)
    (hP : ∀ i v, P i v → ∃ l, v = .ref l ∧ h0.IsList l (xs i)) (hz : ∀ i, i ≤ n → (upTo xs i).size ≤ sizeLine) :
    ∀ (k i : Nat) (s : Shared) (acc : Addr) (c : Nat), n - i = k → i ≤ n → St i s.heap → s.heap.get? S = some { cls := .type "list", dict := none, data := .seq #[.ref acc] c, slots := #[] } → s.heap.IsList acc (upTo xs i) → acc ∉ wr → acc ≠ S → (i = 0 ∨ h0.objs.size ≤ acc) →
    (i = 0 ∨ s.heap.get? acc = some { cls := .type "list", data := .seq (upTo xs i) }) → (∀ b o, h0.get? b = some o → s.heap.get? b = some o) →
    (∀ h' tk acc', (∀ b o, h0.get? b = some o → h'.get? b = some o) → (n = 0 ∨ (h0.objs.size ≤ acc' ∧ h'.get? acc' = some { cls := .type "list", data := .seq (upTo xs n) })) → R (.ok (.ret (.ref acc'))) { s with heap := h', toks := tk }) →
    codeAny (model prog w) A (.builtin "sum.loop" ⟨[.ref I, .ref S, rawInt 2, rawInt 0], []⟩) R s := by
  have hSw : S ∉ wr := fun h => hSf (W.sub _ h)
  intro k
  induction k with
  | zero =>
    intro i s acc c hk hi hst hS hacc haw haS h1 h2 hkp hR
    have hin : i = n := by omega
    subst hin
    refine codeAny_builtin F.entry_sum_loop ?_
    rw [Around.under_plainId F.plain_sum_loop _]
    show wpAny _ A.in1 (seqItems? (.ref S) >>= _) _ _ s
    refine wpAny_bind (wpAny_seqItems hS rfl ?_)
    show wpAny _ A.in1 (tryCatch (pyNext (.ref I)) _ >>= _) _ _ s
    refine wpAny_bind (wpAny_tryCatch (W.done s _ _ hst fun h' tk hk' => ?_))
    refine wpAny_pure (hR h' tk acc (fun b o z => hk' b o (hw b o z) (hkp b o z)) ?_)
    rcases h1 with q | q
    · exact .inl q
    · rcases h2 with q2 | q2
      · exact .inl q2
      · exact .inr ⟨q, hk' _ _ haw q2⟩
  | succ k ih =>
    intro i s acc c hk hi hst hS hacc haw haS h1 h2 hkp hR
    have hlt : i < n := by omega
    refine codeAny_builtin F.entry_sum_loop ?_
    rw [Around.under_plainId F.plain_sum_loop _]
    show wpAny _ A.in1 (seqItems? (.ref S) >>= _) _ _ s
    refine wpAny_bind (wpAny_seqItems hS rfl ?_)
    show wpAny _ A.in1 (tryCatch (pyNext (.ref I)) _ >>= _) _ _ s
    refine wpAny_bind (wpAny_tryCatch (W.item i s _ _ hlt hst fun v h' tk hPv hst' hk' => ?_))
    obtain ⟨l, rfl, hl⟩ := hP i v hPv
    have hS' := hk' S _ hSw hS
    have hkp' : ∀ b o, h0.get? b = some o → h'.get? b = some o := fun b o z => hk' b o (hw b o z) (hkp b o z)
    have hacc' : h'.IsList acc (upTo xs i) := by
      obtain ⟨o, e, r⟩ := hacc
      exact ⟨o, hk' _ _ haw e, r⟩
    have hl' : h'.IsList l (xs i) := by
      obtain ⟨o, e, r⟩ := hl
      exact ⟨o, hkp' _ _ e, r⟩
    show wpAny _ A.in1 ((holding [Value.ref l] (binaryOp .Add (.ref acc) (.ref l))).attempt >>= _) _ _ _
    have sz : (upTo xs i).size + (xs i).size ≤ sizeLine := by
      have := hz (i + 1) hlt
      rw [show upTo xs (i + 1) = upTo xs i ++ xs i from rfl, Array.size_append] at this
      exact this
    refine wpAny_bind (wpAny_attempt (wpAny_holding (join_lists hacc' hl' sz ?_)))
    show wpAny _ A.in1 (updateSeq S (fun _ => #[.ref h'.objs.size]) >>= _) _ _ _
    have hS2 : (h'.push { cls := .type "list", data := .seq (upTo xs i ++ xs i) }).get? S = some { cls := .type "list", dict := none, data := .seq #[.ref acc] c, slots := #[] } := Heap.get?_push_of_some _ hS'
    refine wpAny_bind (wpAny_updateSeq hS2 rfl ?_)
    have hS3 := Heap.get?_update_self (Obj.mapSeq fun _ => #[Value.ref h'.objs.size]) hS2 rfl
    refine wpAny_bind (wpAny_letGo ?_)
    have hSl : S < h'.objs.size := Heap.lt_size hS'
    have hN : (h'.push { cls := .type "list", data := .seq (upTo xs i ++ xs i) }).get? h'.objs.size = some { cls := .type "list", data := .seq (upTo xs i ++ xs i) } := Heap.get?_push_size _ rfl
    have nS : S ≠ h'.objs.size := Nat.ne_of_lt hSl
    have up : ∀ b o, b ≠ S → (h'.push { cls := .type "list", data := .seq (upTo xs i ++ xs i) }).get? b = some o → (((h'.push { cls := .type "list", data := .seq (upTo xs i ++ xs i) }).update S (Obj.mapSeq fun _ => #[Value.ref h'.objs.size])).update S (Obj.mapSeq fun _ => #[Value.ref h'.objs.size])).get? b = some o := fun b o nb z =>
      (Heap.get?_update_other _ _ (Ne.symm nb)).trans ((Heap.get?_update_other _ _ (Ne.symm nb)).trans z)
    refine wpAny_bind (wpAny_updateSeq hS3 rfl (wpAny_pure ?_))
    refine ⟨plainId_quiet F.plain_sum_loop _, ?_⟩
    exact ih (i + 1) _ h'.objs.size _ (by omega) hlt (W.frame _ h' _ hst' fun b hb o e => up b o (fun q => hSf (by rw [← q]; exact hb)) (Heap.get?_push_of_some _ e)) (Heap.get?_update_self _ hS3 rfl)
      ⟨_, up _ _ (Ne.symm nS) hN, rfl, _, rfl⟩ (fun hm => Nat.lt_irrefl _ (hI _ _ hst' _ hm)) (Ne.symm nS) (.inr (Nat.le_of_lt (Nat.lt_of_le_of_lt hS0 hSl))) (.inr (up _ _ (Ne.symm nS) hN)) (fun b o z => up b o (fun q => Nat.lt_irrefl _ (Nat.lt_of_lt_of_le (by rw [← q]; exact Heap.lt_size z) hS0)) (Heap.get?_push_of_some _ (hkp' b o z))) fun h2 tk2 acc2 hk2 hr2 => hR h2 tk2 acc2 hk2 hr2
theorem sum_lists {l b : Addr} {items : Array Value} {Q : Value → Shared → Prop} (hh : A.handled = none) (hl : s.heap.IsList l items) (hb : s.heap.IsList b #[]) (xs : Nat → Array Value) (hP : ∀ i v, items[i]? = some v → ∃ a, v = .ref a ∧ s.heap.IsList a (xs i)) (hz : ∀ i, i ≤ items.size → (upTo xs i).size ≤ sizeLine)
    (hn : items.size ≠ 0) (h : ∀ h' tk acc, (∀ b o, s.heap.get? b = some o → h'.get? b = some o) → s.heap.objs.size ≤ acc → h'.get? acc = some { cls := .type "list", data := .seq (upTo xs items.size) } → Q (.ref acc) { s with heap := h', toks := tk }) :
    wpAny (model prog w) A (call (.builtin "sum") [.ref l, .ref b]) Q E s := by
  refine call_function_tree F.kind_sum F.plain_sum F.entry_sum (args_sum2 _ _) ?_
  unfold Builtin.«sum»
  simp only [List.length_cons, List.length_nil]
  rw [if_neg (by decide)]
  refine wpAny_bind (wpAny_of_eq (show Builtin.Builtins.bindParams "sum" ["start"] 0 ⟨[.ref b], []⟩ = pure [some (.ref b)] from rfl) ?_)
  refine wpAny_bind (wpAny_pyIter_list hl ?_)
  refine wpAny_bind (wpAny_pure ?_)
  have hb1 := hb.push { cls := .type "list_iterator", data := .fields #[.ref l, .int 0 0] }
  simp only [List.forIn_cons, List.forIn_nil]
  refine wpAny_bind (wpAny_bind (wpAny_bind (wpAny_isInstance (T := "list") (b := false) hb1.typeIs (by rw [isSubtype_type]; kernel_rfl) ?_)))
  simp only [Bool.false_eq_true, if_false]
  refine wpAny_pure (wpAny_bind (wpAny_bind (wpAny_isInstance (T := "list") (b := false) hb1.typeIs (by rw [isSubtype_type]; kernel_rfl) ?_)))
  simp only [Bool.false_eq_true, if_false]
  refine wpAny_pure (wpAny_bind (wpAny_bind (wpAny_isInstance (T := "list") (b := false) hb1.typeIs (by rw [isSubtype_type]; kernel_rfl) ?_)))
  simp only [Bool.false_eq_true, if_false]
  refine wpAny_pure (wpAny_pure ?_)
  refine wpAny_bind (wpAny_newObj_type ?_)
  have hlt : l < s.heap.objs.size := by
    obtain ⟨_, e, _⟩ := hl
    exact Heap.lt_size e
  have hbt : b < s.heap.objs.size := by
    obtain ⟨_, e, _⟩ := hb
    exact Heap.lt_size e
  have sz : (s.heap.push { cls := .type "list_iterator", data := .fields #[.ref l, .int 0 0] }).objs.size = s.heap.objs.size + 1 := Heap.size_push ..
  have two : ∀ c o, s.heap.get? c = some o → ((s.heap.push { cls := .type "list_iterator", data := .fields #[.ref l, .int 0 0] }).push { cls := .type "list", data := .seq #[.ref b] }).get? c = some o := fun c o e => Heap.get?_push_of_some _ (Heap.get?_push_of_some _ e)
  refine wpAny_pure ⟨plainId_quiet F.plain_sum_loop _, ?_⟩
  refine sum_lists_loop (Walks.list (A := A.in1) hh s.heap.objs.size l (Nat.ne_of_lt hlt) items) xs s.heap (fun c o e hm => ?_) (by show s.heap.objs.size ≤ (s.heap.push _).objs.size; rw [sz]; omega) (fun hm => ?_) (fun i h st c hm => ?_) hP hz items.size 0 _ b 0 rfl (Nat.zero_le _) ⟨?_, (hl.push _).push _⟩ (Heap.get?_push_size _ rfl) ((hb.push _).push _) (fun hm => ?_) ?_ (.inl rfl) (.inl rfl) two fun h' tk acc k2 r2 => ?_
  · rw [List.mem_singleton.mp hm] at e
    exact Nat.lt_irrefl _ (Heap.lt_size e)
  · have hm : (s.heap.push { cls := .type "list_iterator", data := .fields #[.ref l, .int 0 0] }).objs.size ∈ [s.heap.objs.size, l] := hm
    rw [sz] at hm
    rcases List.mem_cons.mp hm with q | q
    · exact Nat.succ_ne_self _ q
    · have q2 := List.mem_singleton.mp q
      rw [← q2] at hlt
      exact Nat.not_succ_le_self _ (Nat.le_of_succ_le hlt)
  · rw [List.mem_singleton.mp hm]
    obtain ⟨⟨o, e, _⟩, _⟩ := st
    exact Heap.lt_size e
  · exact ⟨_, Heap.get?_push_of_some _ (Heap.get?_push_size _ rfl), rfl, rfl⟩
  · rw [List.mem_singleton.mp hm] at hbt
    exact Nat.lt_irrefl _ hbt
  · show b ≠ (s.heap.push _).objs.size
    rw [sz]
    exact Nat.ne_of_lt (Nat.lt_succ_of_lt hbt)
  · rcases r2 with q | ⟨q, e⟩
    · exact absurd q hn
    · exact h h' tk acc k2 q e
end
end PB
end

section
set_option Elab.async false
set_option linter.all false
set_option maxRecDepth 100000
set_option maxHeartbeats 400000
/-! Sound48: the rule of sum(lists, []). -/
namespace PB
open PySem PySem.Spec PyProof.Rows L2
section
variable {X : Cx} {pins : List (Addr × Obj)} {σ : L2.St} {H : Hp} {s : Shared} {N : Addr → Prop}
theorem lists_of (I : Inv X pins σ H s) : ∀ {ts : List T} {ls : List (List T)} {vs : List V} {its : List Value}, allLsts ts = some ls → Reps X.K H N ts vs → Vals vs its →
    ∃ (wss : List (List V)) (itss : List (List Value)), Reps X.K H N ls.flatten wss.flatten ∧ Vals wss.flatten itss.flatten ∧ itss.length = its.length ∧ ∀ i v, its[i]? = some v → ∃ a, v = .ref a ∧ s.heap.IsList a (itss.getD i []).toArray
  | [], ls, vs, its, e, r, rv => by
    cases e; cases r; cases rv
    exact ⟨[], [], .nil, .nil, rfl, fun i v h => by simp at h⟩
  | t :: ts, ls, vs, its, e, r, rv => by
    cases r with
    | cons r1 r2 =>
      cases rv with
      | cons q1 q2 =>
        cases t with
        | lst l =>
          obtain ⟨ls', e1, e2⟩ := optBind_some (show optBind (allLsts ts) (fun m => some (l :: m)) = some ls from e)
          cases e2
          cases r1 with
          | lst h n rr =>
            obtain ⟨wss, itss, a1, a2, a3, a4⟩ := lists_of I e1 r2 q2
            obtain ⟨it1, rv1, p1, _⟩ := I.list (SqL.of h)
            cases q1
            refine ⟨_ :: wss, it1 :: itss, Reps.append rr a1, rv1.append a2, by rw [List.length_cons, List.length_cons, a3], fun i v hv => ?_⟩
            cases i with
            | zero =>
              cases hv
              exact ⟨_, rfl, p1.isList⟩
            | succ i => exact a4 i v hv
        | _ => cases e
theorem upTo_take (itss : List (List Value)) : ∀ i, i ≤ itss.length → upTo (fun j => (itss.getD j []).toArray) i = (itss.take i).flatten.toArray
  | 0, _ => by rw [List.take_zero]; rfl
  | i + 1, h => by
    have ih := upTo_take itss i (Nat.le_of_succ_le h)
    show upTo _ i ++ _ = _
    rw [ih, List.take_add_one, List.flatten_append, List.getElem?_eq_getElem h]
    simp [List.getD_eq_getElem?_getD, List.getElem?_eq_getElem h]
theorem ok_sum2 (hc : X.calm = true) : CallR X (.builtin "sum") (rB X.K sum2B) := by
  intro pins s σ H xs us Q I r h
  obtain ⟨N, ts, y, hr, e, q⟩ := h
  unfold sum2B at e
  split at e
  · rename_i x0 xs0
    obtain ⟨ls, e1, e2⟩ := optBind_some e
    obtain ⟨c, e3⟩ := cond_some e2
    cases e3
    obtain ⟨v1, v2, rfl, h1, h2⟩ := hr.two
    obtain ⟨a, vs, rfl, ha, ra⟩ := h1.lst
    obtain ⟨b, ws, rfl, hb, rb⟩ := h2.lst
    cases rb
    cases r with
    | cons r1 r =>
      cases r with
      | cons r2 r =>
        cases r
        cases r1
        cases r2
        obtain ⟨its, rv, p1, _⟩ := I.list (SqL.of ha)
        obtain ⟨its2, rv2, p2, _⟩ := I.list (SqL.of hb)
        cases rv2
        obtain ⟨wss, itss, w1, w2, w3, w4⟩ := lists_of I e1 ra rv
        have hlen : its.length ≠ 0 := by
          rw [← rv.length, ← ra.length]
          exact Nat.succ_ne_zero _
        have tot : itss.flatten.length ≤ sizeLine := by
          rw [← w2.length, ← w1.length]
          exact Nat.le_of_lt (sized_le c)
        have pre : ∀ i, (itss.take i).flatten.length ≤ itss.flatten.length := fun i => by
          have := congrArg List.length (congrArg List.flatten (List.take_append_drop i itss))
          rw [List.flatten_append, List.length_append] at this
          omega
        refine sum_lists (I.ok.hd hc) p1.isList p2.isList (fun j => (itss.getD j []).toArray) (fun i v hv => w4 i v (by simpa using hv)) (fun i hi => ?_) (by rw [List.size_toArray]; exact hlen) fun h' tk acc k le g => ?_
        · rw [upTo_take itss i (by rw [w3]; simpa using hi), List.size_toArray]
          exact Nat.le_trans (pre i) tot
        · have hfull : upTo (fun j => (itss.getD j []).toArray) its.toArray.size = itss.flatten.toArray := by
            rw [List.size_toArray, ← w3, upTo_take itss _ (Nat.le_refl _), List.take_length]
          rw [hfull] at g
          have hn : H acc = none := I.hok.fresh le
          have J := I.laid (t' := tk) (a := acc) (o := .lst wss.flatten) k le ⟨by rw [w2.length]; exact tot, itss.flatten, _, w2, g⟩
          exact ⟨.ref acc, _, J, rfl, q.newL w1 acc hn⟩
  · cases e
end
end PB
end

section
set_option Elab.async false
set_option linter.all false
set_option maxRecDepth 100000
set_option maxHeartbeats 400000
/-! Sound49: the head's hook with such classes. -/
namespace PB
open PySem PySem.Spec PyProof.Rows L2
abbrev AlY : Type := He.AlX × List (Bool × FnC)
def obsY (n : Nat) (fa : List He.Fa) (fn : List He.DefD) (ts : List He.Tab) (tf : List He.Defn) (ex : PySem.W.Frag → Bool) (sd : List SupD) (g : Addr → Option Obj) : AlY := (He.obsX n fa fn ts tf ex g, sd.map (supO (He.frT g (He.asD g n))))
def hookY (n : Nat) (fa : List He.Fa) (fn : List He.DefD) (ts : List He.Tab) (tf : List He.Defn) (ex : PySem.W.Frag → Bool) (sd : List SupD) (sv : List (Bool × FnC)) : PySem.W.Hook where
  α := AlY
  obs := fun s => obsY n fa fn ts tf ex sd s.heap.get?
  val := fun w => (He.valX fn ts w, sv)
  says := fun w h => ∃ K : PySem.W.Frag, K.In h ∧ He.SaysX fa fn ts tf ex w h K ∧ sd.map (supO K) = sv
  of := fun _ _ e => ⟨_, He.frT_in, He.saysX_of (congrArg (fun z : AlY => z.1) e), congrArg (fun z : AlY => z.2) e⟩
  keeps := fun _ _ _ ⟨K, hK, c, q⟩ k => ⟨K, PySem.W.Frag.In.keeps hK k, ⟨c.t, c.more, c.hd, c.out, fun p hp => k _ _ (c.empty p hp)⟩, q⟩
theorem obsY_eq {n : Nat} {fa : List He.Fa} {fn : List He.DefD} {ts : List He.Tab} {tf : List He.Defn} {ex : PySem.W.Frag → Bool} {sd : List SupD} {sv : List (Bool × FnC)} {g : Addr → Option Obj} {s : Shared} (h : ∀ a, g a = s.heap.get? a) : obsY n fa fn ts tf ex sd g = (hookY n fa fn ts tf ex sd sv).obs s := by
  have e : g = s.heap.get? := funext h
  rw [e] <;> rfl
theorem sup_at {K : PySem.W.Frag} {sd : List SupD} {sv : List (Bool × FnC)} (e : sd.map (supO K) = sv) (i : Nat) {d : SupD} {v : Bool × FnC} (hd : sd[i]? = some d) (hv : sv[i]? = some v) : supO K d = v := by
  have h : (sd.map (supO K))[i]? = sv[i]? := by rw [e]
  rw [List.getElem?_map, hd, hv] at h
  exact Option.some.inj h
/-- a class's first method -/
def meth : Stmt → Stmt
  | .ClassDef _ _ _ body _ _ _ _ _ _ _ => body.getD 0 (.Pass ⟨0, 0, 0, 0⟩)
  | s => s
end PB
end

section
set_option Elab.async false
set_option linter.all false
set_option maxRecDepth 100000
set_option maxHeartbeats 400000
/-! Sound50: a lambda with one parameter, its default a constant, handed to a def that calls it without arguments. -/
namespace PB
namespace LD
open PySem PySem.Spec PyProof.Rows L2
open PySem.W (tabObj)
/-- the function object, its defaults told -/
abbrev fnD (q : Str) (params : Arguments) (body : Expr) (scope : Scope) (cl : List (Str × Addr)) (dV pm cdv ct : Value) : FuncData := { PySem.W.kla_fn "<lambda>" q params body scope cl pm cdv ct with defaults := dV }
abbrev obD (q : Str) (params : Arguments) (body : Expr) (scope : Scope) (cl : List (Str × Addr)) (dV pm : Value) (c' : Addr) (ct : Value) : Obj := { cls := .type "function", data := .func (fnD q params body scope cl dV pm (.ref c') ct) }
section
variable {M : Model} {A : Around} {E : Value → Shared → Prop} {s : Shared} {q : Str} {params : Arguments} {body : Expr} {scope : Scope} {env : PySem.Env} {c P : Addr} {ps : Array Value} {pos : Pos} {fl : Nat} {mg : Str → Option Value} {cl : List (Str × Addr)} {dV : Value} {Q : Value → Shared → Prop}
/-- the tuple of the cells, or none -/
theorem cells_tuple {l : List Value} {b : Bool} {f : Value → Sem Value} (h : ∀ ct h₁, (∀ a o, s.heap.get? a = some o → h₁.get? a = some o) → s.heap.objs.size ≤ h₁.objs.size → wpAny M A (f ct) Q E { s with heap := h₁ }) :
    wpAny M A (if b = true then (do let ct ← pure .none; f ct) else (do let ct ← newTextTuple l; f ct)) Q E s := by
  cases b with
  | true => exact wpAny_bind (wpAny_pure (h _ s.heap (fun _ _ e => e) (Nat.le_refl _)))
  | false => exact wpAny_bind (wpAny_newTextTuple (h _ _ (fun _ _ e => Heap.get?_push_of_some _ e) (by rw [Heap.size_push]; omega)))
theorem tail_new (hcl : closureFor scope env = pure cl) (hg0 : env.globals = mainGlobals) (hg : s.heap.Ns mainGlobals mg) (hc : env.code = .ref c) (C : PySem.W.CodeHd s.heap c P) (hP : s.heap.get? P = some (tabObj ps)) (ht : TriplesOk ps.toList) (hn : codeAmong pos ps.toList = none) (hgP : mainGlobals ≠ P) (hb : s.heap.BuiltinsAt mg P)
    (h : ∀ (c' : Addr) (ct : Value) (h' : Heap) (tk : Nat), Heap.ExtBut P s.heap h' → s.heap.objs.size ≤ c' → c' < h'.objs.size → h'.CodeRec (.ref c') q → h'.get? P = some (tabObj (ps ++ #[rawInt pos.line, rawInt pos.col, .ref c'])) → Q (.ref h'.objs.size) { s with heap := h'.push (obD q params body scope cl dV ((mg "__name__").getD .none) c' ct), toks := tk }) :
    wpAny M A (makeTail "<lambda>" q params (.expr body) scope env dV .none none pos fl) Q E s := by
  obtain ⟨bm, ob, b1, b2, _, b3, b4, b5, b6, b7⟩ := hb
  unfold makeTail
  rw [hcl, hg0]
  refine wpAny_bind (wpAny_pure (cells_tuple fun ct h₁ k1 z1 => ?_))
  have hP1 := k1 _ _ hP
  refine wpAny_bind (wpAny_functionCodeX hc ((C.keeps k1).code hP1 ht) ((C.keeps k1).tab hP1) hn fun c' h' tk hx hge hlt _ hrec htb _ => ?_)
  have hg1 := (hg.keeps k1).extBut hx hgP
  refine wpAny_bind (wpAny_builtinsFor hg1 b1 b2 (hx _ _ b3 (k1 _ _ b4)) b5 b6 b7 ?_)
  refine wpAny_bind (wpAny_nsGet hg1 (wpAny_bind (wpAny_pure (wpAny_newObj_type ?_ (by size_fits)))))
  exact h c' ct h' tk (fun b o nb e => hx b o nb (k1 b o e)) (Nat.le_trans z1 hge) hlt hrec htb.2
theorem tail_old {cv : Value} (hcl : closureFor scope env = pure cl) (hg0 : env.globals = mainGlobals) (hg : s.heap.Ns mainGlobals mg) (hc : env.code = .ref c) (C : PySem.W.CodeHd s.heap c P) (hP : s.heap.get? P = some (tabObj ps)) (ht : TriplesOk ps.toList) (hn : codeAmong pos ps.toList = some cv) (hb : s.heap.BuiltinsAt mg P)
    (h : ∀ (ct : Value) (h' : Heap) (tk : Nat), (∀ b o, s.heap.get? b = some o → h'.get? b = some o) → s.heap.objs.size ≤ h'.objs.size → Q (.ref h'.objs.size) { s with heap := h'.push { cls := .type "function", data := .func (fnD q params body scope cl dV ((mg "__name__").getD .none) cv ct) }, toks := tk }) :
    wpAny M A (makeTail "<lambda>" q params (.expr body) scope env dV .none none pos fl) Q E s := by
  obtain ⟨bm, ob, b1, b2, _, b3, b4, b5, b6, b7⟩ := hb
  unfold makeTail
  rw [hcl, hg0]
  refine wpAny_bind (wpAny_pure (cells_tuple fun ct h₁ k1 z1 => ?_))
  have hP1 := k1 _ _ hP
  refine wpAny_bind (wpAny_functionCode_hit hc ((C.keeps k1).code hP1 ht) hn ?_)
  refine wpAny_bind (wpAny_builtinsFor (hg.keeps k1) b1 b2 (k1 _ _ b4) b5 b6 b7 ?_)
  refine wpAny_bind (wpAny_nsGet (hg.keeps k1) (wpAny_bind (wpAny_pure (wpAny_newObj_type ?_ (by size_fits)))))
  exact h ct h₁ s.toks k1 z1
/-- the lambda's evaluation up to the tail -/
theorem eval_lam {i : Int} {j : Nat} {dp : Pos} (hdef : defaultsOf params env = ([eval (.Constant (.int i) j dp) env], [])) (hkw : params.kwonlyargs = [])
    (h : ∀ (v : Value) (tk : Nat), (∃ t, v = .int i t) → wpAny M A (makeTail "<lambda>" (env.qual ++ "<lambda>") params (.expr body) scope env (.ref s.heap.objs.size) .none none pos pos.line) Q E { s with heap := s.heap.push { cls := .type "tuple", data := .seq #[v] }, toks := tk }) :
    wpAny M A (eval (.Lambda params body scope pos) env) Q E s := by
  rw [arm_eval_Lambda, hdef]
  show wpAny M A (do let dv ← evalAll [eval (.Constant (.int i) j dp) env]; let kdv ← holding dv (evalAllOpt []); makeFunction "<lambda>" (env.qual ++ "<lambda>") params (.expr body) scope env dv kdv [] pos pos.line) Q E s
  refine wpAny_bind ?_
  show wpAny M A (do let v ← eval (.Constant (.int i) j dp) env; return v :: (← holding [v] (evalAll []))) _ E s
  refine wpAny_bind (wpAny_Constant_int ?_)
  refine wpAny_bind (wpAny_holding (wpAny_pure (wpAny_pure (wpAny_bind (wpAny_holding (wpAny_pure ?_))))))
  rw [makeFunction_eq]
  simp only [hkw, List.zip_nil_right, List.filterMap_nil, List.isEmpty_nil, List.isEmpty_cons, if_true, Bool.false_eq_true, if_false, pure_bind]
  refine wpAny_bind (wpAny_newTextTuple ?_)
  exact h _ _ ⟨_, rfl⟩
end
/-! ### over the layer -/
section
variable {X : Cx} {pins : List (Addr × Obj)} {σ : L2.St} {H : Hp} {s : Shared}
/-- such a lambda is made: f the function, dt its defaults -/
theorem made {T : List (Addr × Str)} {c P : Addr} {params : Arguments} {body : Expr} {scope : Scope} {pos : Pos} {E : Value → Shared → Prop} {Q : Value → Shared → Prop} {i : Int} {j : Nat} {dp : Pos} (J : Inv X pins σ H s) (B : LamX.TabB X.base X.mg c P) (hc : X.env.code = .ref c)
    (hm : (P, X.env.qual ++ "<lambda>") ∈ T) (hu : ∀ p ∈ T, p.1 = P → p.2 = X.env.qual ++ "<lambda>") (hT : LamX.Tabs T H) (hdef : defaultsOf params X.env = ([eval (.Constant (.int i) j dp) X.env], [])) (hkw : params.kwonlyargs = []) (hfree : ∀ y ∈ scope.names, y.2 = .free → ∃ c, X.env.cells.lookup y.1 = some c)
    (h : ∀ (f c' dt : Addr) (v pm ct : Value) (H1 : Hp) (s' : Shared), Inv X pins σ H1 s' → LamX.ExtN H H1 → LamX.Tabs T H1 → (∃ t, v = .int i t) → s'.heap.get? dt = some { cls := .type "tuple", data := .seq #[v] } → H1 dt = none → dt ∉ frs X.stack →
      s'.heap.get? f = some (obD (X.env.qual ++ "<lambda>") params body scope (cloFrom X.env.cells scope.names []) (.ref dt) pm c' ct) → H1 f = none → f ∉ frs X.stack → H1 c' = some (LamX.CodeO c' (X.env.qual ++ "<lambda>")) → Q (.ref f) s') :
    wpAny (model X.prog X.w) X.A (eval (.Lambda params body scope pos) X.env) Q E s := by
  obtain ⟨ps, hP, ht, ha⟩ := hT _ hm
  have out : ∀ b, s.heap.objs.size ≤ b → b ∉ frs X.stack := fun b hb z => by
    rcases List.mem_cons.mp (J.stkSub _ z) with e | e
    · have := J.lt
      rw [← e] at this
      exact Nat.lt_irrefl _ (Nat.lt_of_lt_of_le this hb)
    · exact J.nofs hb e
  refine eval_lam hdef hkw fun v tk hv => ?_
  have J1 : Inv X pins σ H { s with heap := s.heap.push { cls := .type "tuple", data := .seq #[v] }, toks := tk } := J.kept fun b o e => Heap.get?_push_of_some _ e
  have d1 : (s.heap.push { cls := .type "tuple", data := .seq #[v] }).get? s.heap.objs.size = some { cls := .type "tuple", data := .seq #[v] } := Heap.get?_push_size _ rfl
  have dN : H s.heap.objs.size = none := J.hok.fresh (Nat.le_refl _)
  have sz1 : s.heap.objs.size ≤ (s.heap.push { cls := .type "tuple", data := .seq #[v] }).objs.size := by rw [Heap.size_push]; omega
  have hP1 : (s.heap.push { cls := .type "tuple", data := .seq #[v] }).get? P = some (tabObj ps) := J1.hok P _ hP
  have dP : s.heap.objs.size ≠ P := fun z => by rw [z] at dN; rw [dN] at hP; cases hP
  cases hk : codeAmong pos ps.toList with
  | none =>
    refine tail_new (mg := X.mg) (c := c) (P := P) (ps := ps) (closure_ok hfree) J1.ok.glob (J1.mod.glob.keeps J1.bk) hc (B.code.keeps J1.bk) hP1 ht hk B.gP (B.bm.keeps J1.bk) fun c' ct h' tk2 hx hge hlt hrec htb => ?_
    obtain ⟨c2, oc, vs, t, e2, hoc, hd, hvs⟩ := hrec
    cases e2
    have nC : H c' = none := J1.hok.fresh hge
    have hsz : s.heap.objs.size ≤ h'.objs.size := Nat.le_trans sz1 (Nat.le_trans hge (Nat.le_of_lt hlt))
    have J2 := LamX.inv_table (t' := tk2) (more := #[rawInt pos.line, rawInt pos.col, .ref c']) (h' := h'.push (obD (X.env.qual ++ "<lambda>") params body scope (cloFrom X.env.cells scope.names []) (.ref s.heap.objs.size) ((X.mg "__name__").getD .none) c' ct)) J1 hP
      (fun b o hb e => Heap.get?_push_of_some _ (hx b o hb e)) (Heap.get?_push_of_some _ htb) hge ⟨oc, vs, t, Heap.get?_push_of_some _ hoc, hd, hvs⟩
    have hE : LamX.ExtN H (upd (upd H P (.tbl (ps ++ #[rawInt pos.line, rawInt pos.col, .ref c']))) c' (LamX.CodeO c' (X.env.qual ++ "<lambda>"))) := fun b o e n => by
      rw [upd_ne (ne_of_none e nC)]
      rw [upd_ne (fun z => n ps (Option.some.inj (e.symm.trans (by rw [z]; exact hP))))]
      exact e
    have eL : (ps ++ #[rawInt pos.line, rawInt pos.col, .ref c']).toList = ps.toList ++ [rawInt pos.line, rawInt pos.col, .ref c'] := by simp
    have un : ∀ b, H b = none → b ≠ c' → b ≠ P → upd (upd H P (.tbl (ps ++ #[rawInt pos.line, rawInt pos.col, .ref c']))) c' (LamX.CodeO c' (X.env.qual ++ "<lambda>")) b = none := fun b n1 n2 n3 => by
      rw [upd_ne n2, upd_ne n3]; exact n1
    have sz2 : s.heap.objs.size + 1 ≤ c' := by
      have : (s.heap.push { cls := .type "tuple", data := .seq #[v] }).objs.size ≤ c' := hge
      rw [Heap.size_push] at this
      exact this
    have dC : s.heap.objs.size ≠ c' := Nat.ne_of_lt sz2
    have fP : h'.objs.size ≠ P := Nat.ne_of_gt (Heap.lt_size htb)
    refine h h'.objs.size c' s.heap.objs.size v ((X.mg "__name__").getD .none) ct _ _ J2 hE (fun p hp => ?_) hv (Heap.get?_push_of_some _ (hx _ _ dP d1)) (un _ dN dC dP) (out _ (Nat.le_refl _)) (Heap.get?_push_size _ rfl) (un _ (J.hok.fresh hsz) (Nat.ne_of_gt hlt) fP) (out _ hsz) upd_same
    by_cases hb : p.1 = P
    · rw [hu p hp hb, hb]
      refine ⟨_, by rw [upd_ne (ne_of_none hP nC), upd_same], by rw [eL]; exact PySem.TriplesOk_snoc _ _ _ _ ht, fun p' cv hcv => ?_⟩
      rw [eL] at hcv
      rcases LamX.among_app _ ht hcv with z | z
      · obtain ⟨c0, e1, e2⟩ := ha p' cv z
        exact ⟨c0, e1, hE _ _ e2 LamX.codeO_ne⟩
      · exact ⟨c', z, upd_same⟩
    · obtain ⟨ps', a1, a2, a3⟩ := hT p hp
      refine ⟨ps', by rw [upd_ne (ne_of_none a1 nC), upd_ne hb]; exact a1, a2, fun p' cv hcv => ?_⟩
      obtain ⟨c0, e1, e2⟩ := a3 p' cv hcv
      exact ⟨c0, e1, hE _ _ e2 LamX.codeO_ne⟩
  | some cv =>
    obtain ⟨c', e, hco⟩ := ha pos cv hk
    subst e
    refine tail_old (mg := X.mg) (c := c) (P := P) (ps := ps) (closure_ok hfree) J1.ok.glob (J1.mod.glob.keeps J1.bk) hc (B.code.keeps J1.bk) hP1 ht hk (B.bm.keeps J1.bk) fun ct h' tk2 hx hsz => ?_
    have J2 : Inv X pins σ H { s with heap := h'.push (obD (X.env.qual ++ "<lambda>") params body scope (cloFrom X.env.cells scope.names []) (.ref s.heap.objs.size) ((X.mg "__name__").getD .none) c' ct), toks := tk2 } := J1.kept fun b o e => Heap.get?_push_of_some _ (hx b o e)
    have le : s.heap.objs.size ≤ h'.objs.size := Nat.le_trans sz1 hsz
    exact h h'.objs.size c' s.heap.objs.size v ((X.mg "__name__").getD .none) ct H _ J2 (LamX.ExtN.refl H) hT hv (Heap.get?_push_of_some _ (hx _ _ d1)) dN (out _ (Nat.le_refl _)) (Heap.get?_push_size _ rfl) (J.hok.fresh le) (out _ le) hco
end
end LD
end PB
end

section
set_option Elab.async false
set_option linter.all false
set_option maxRecDepth 100000
set_option maxHeartbeats 400000
/-! Sound51: such a lambda is called. -/
namespace PB
namespace LD
open PySem PySem.Spec PyProof.Rows L2
/-- one parameter x, captured names, globals -/
structure LamD (sc scope : Scope) (x : Str) : Prop where
  kind : scope.kind = .function
  co : scope.isCoroutine = false
  gen : scope.isGenerator = false
  cel : ∀ y ∈ scope.names, y.2 ≠ .cell
  loc : ∀ y ∈ scope.names, y.2 = .local → y.1 = x
  here : scope.names.lookup x = some .local
  free : ∀ y ∈ scope.names, y.2 = .free → sc.names.lookup y.1 = some .cell ∨ sc.names.lookup y.1 = some .free
def lamDB (sc scope : Scope) (x : Str) : Bool :=
  decide (scope.kind = .function) && (!scope.isCoroutine && (!scope.isGenerator && (decide (scope.names.lookup x = some .local) && scope.names.all fun y => !decide (y.2 = .cell) && ((!decide (y.2 = .local) || y.1 == x) && (!decide (y.2 = .free) || (decide (sc.names.lookup y.1 = some .cell) || decide (sc.names.lookup y.1 = some .free)))))))
theorem lamD_by {sc scope : Scope} {x : Str} (h : lamDB sc scope x = true) : LamD sc scope x := by
  obtain ⟨h1, h⟩ := He.ba h
  obtain ⟨h2, h⟩ := He.ba h
  obtain ⟨h3, h⟩ := He.ba h
  obtain ⟨h4, h⟩ := He.ba h
  have al := fun y hy => He.ba (List.all_eq_true.mp h y hy)
  refine ⟨of_decide_eq_true h1, Bool.not_eq_true' _ |>.mp h2, Bool.not_eq_true' _ |>.mp h3, fun y hy => of_decide_eq_false (Bool.not_eq_true' _ |>.mp (al y hy).1), fun y hy e => ?_, of_decide_eq_true h4, fun y hy e => ?_⟩
  · have z := (He.ba (al y hy).2).1
    rw [decide_eq_true e] at z
    exact beq_iff_eq.mp z
  · have z := (He.ba (al y hy).2).2
    rw [decide_eq_true e] at z
    rcases Bool.or_eq_true _ _ |>.mp z with z | z
    · cases z
    · rcases Bool.or_eq_true _ _ |>.mp z with z | z
      · exact .inl (of_decide_eq_true z)
      · exact .inr (of_decide_eq_true z)
theorem LamD.has {X : Cx} {scope : Scope} {x : Str} (L : LamD X.env.scope scope x) (ok : X.Ok) : ∀ y ∈ scope.names, y.2 = .free → ∃ c, X.env.cells.lookup y.1 = some c := fun y hy e => by
  rcases L.free y hy e with z | z
  · exact ok.has _ (.inl z)
  · exact ok.has _ (.inr z)
section
variable {M : Model} {A : Around} {E : Value → Shared → Prop} {s : Shared}
theorem bind_one {q : Str} {params : Arguments} {body : Expr} {scope : Scope} {cl : List (Str × Addr)} {pm cdv ct v : Value} {dt : Addr} {ar : Arg} {Q : List (Str × Value) → Shared → Prop} (hp : params.posonlyargs = []) (ha : params.args = [ar]) (hv : params.vararg = none) (hk : params.kwonlyargs = []) (hw : params.kwarg = none)
    (hd : s.heap.get? dt = some { cls := .type "tuple", data := .seq #[v] }) (hq : Q [(ar.arg, v)] s) : wpAny M A (bindArgs (fnD q params body scope cl (.ref dt) pm cdv ct) ⟨[], []⟩) Q E s := by
  unfold bindArgs
  simp only [hp, ha, hv, hk, hw, List.map_nil, List.map_cons, List.nil_append, List.append_nil, List.zip_nil_right, List.length_nil, List.length_cons, List.forIn_nil, pure_bind]
  refine wpAny_bind (wpAny_seqItems hd rfl ?_)
  simp only [Option.getD_some]
  simp [List.forIn_cons, List.lookup]
  exact wpAny_pure hq
end
section
variable {X : Cx} {pins : List (Addr × Obj)} {σ : L2.St} {H HZ : Hp} {s s1 : Shared}
theorem start {A : Around} {outer : List PySem.Env} {E : XK} {scope : Scope} {x : Str} {f c' : Addr} {h₁ : Heap} {tk : Nat} {m : Str → Option Value} (J : Inv X pins σ H s) (L : LamD X.env.scope scope x) (hN : ∀ i : Nat, X.N[i]? = some x → ∀ v, σ[i]? ≠ some (some v)) (e0 : Env0 X.prog X.w X.K X.mg X.base A outer s1 HZ) (hd : A.handled = none)
    (un : Un (frs X.stack) [] H HZ s.heap s1.heap) (hns : h₁.Ns s1.heap.objs.size m) (kp : ∀ b o, s1.heap.get? b = some o → h₁.get? b = some o) :
    Inv (LamX.lamCx X A outer s1 HZ E scope f c') [] σ HZ { s1 with heap := h₁, toks := tk } := by
  have hfree := L.has J.ok
  have cm : ∀ {y c}, (cloFrom X.env.cells scope.names []).lookup y = some c → X.env.cells.lookup y = some c := fun {y c} e => by
    rcases cloFrom_mem (PySem.mem_of_lookup e) with z | ⟨z1, z2⟩
    · cases z
    · obtain ⟨c1, z3⟩ := hfree _ z1 rfl
      have z3 : X.env.cells.lookup y = some c1 := z3
      have : c = c1 := by
        rw [z2, z3] <;> rfl
      rw [this]
      exact z3
  have look : ∀ {y}, scope.names.lookup y = some .free → ∃ c, (cloFrom X.env.cells scope.names []).lookup y = some c := fun {y} z => by
    have hy : (y, NameKind.free) ∈ scope.names := PySem.mem_of_lookup z
    exact mem_lookup (cloFrom_has (cells := X.env.cells) (acc := []) hy)
  have cellK : ∀ {c : Addr} {v : Option Value}, H c = none → s.heap.IsCell c v → h₁.IsCell c v := fun {c v} n ⟨o, ho, hd⟩ => by
    obtain ⟨sl, q⟩ := un.any ho n (by simp)
    exact ⟨_, kp _ _ q, hd⟩
  have noA : ∀ b : Addr, b ∉ (LamX.lamCx X A outer s1 HZ E scope f c').ex := fun b z => absurd (show b ∈ ([] : List Addr) from z) (by simp)
  refine ⟨⟨e0.mod, L.kind, rfl, rfl, Nat.le_refl _, fun y z c e1 e2 => J.ok.inj y z c (cm e1) (cm e2), fun y hy => ?_, fun y c z _ => ?_, fun _ => hd, Around.frames_deeper e0.frames, .inr ⟨rfl, rfl⟩, fun b z => absurd z (noA b), e0.bs, e0.bsz, fun b _ _ => noA b,
      fun b z => absurd z (noA b), e0.funs, e0.frf⟩,
    rfl, e0.bare, Un.kept kp, ⟨_, hns, fun i y v e1 e2 e3 => ?_⟩, fun y c e => ?_, e0.hok.fresh (Nat.le_refl _), fun y c e => ?_, fun q hq => absurd (show q ∈ ([] : List (Addr × Obj)) ++ [] from hq) (by simp), e0.hok.kept kp, J.len⟩
  · have hy : scope.names.lookup y = some .cell ∨ scope.names.lookup y = some .free := hy
    rcases hy with z | z
    · exact absurd rfl (L.cel _ (PySem.mem_of_lookup z))
    · exact look z
  · have z : false = true := z
    cases z
  · have e3 : Vis scope y := e3
    rcases e3 with z | z | z
    · exact absurd e2 (hN i (by rw [← L.loc _ (PySem.mem_of_lookup z) rfl]; exact e1) v)
    · exact absurd rfl (L.cel _ (PySem.mem_of_lookup z))
    · obtain ⟨m', hn, hl⟩ := J.loc
      have hvis : Vis X.env.scope y := (L.free _ (PySem.mem_of_lookup z) rfl).elim (fun z => .inr (.inl z)) (fun z => .inr (.inr z))
      obtain ⟨w', r, q⟩ := hl i y v e1 e2 hvis
      obtain ⟨c2, z2⟩ := look z
      refine ⟨w', r, .inr ⟨.inr z, c2, z2, ?_⟩⟩
      have c1 := cm z2
      rcases q with ⟨k', _⟩ | ⟨_, c3, e', z4⟩
      · have k' : X.env.scope.names.lookup y = some .local := k'
        rcases L.free _ (PySem.mem_of_lookup z) rfl with k2 | k2 <;> rw [show X.env.scope.names.lookup y = _ from k2] at k' <;> cases k'
      · rw [c1] at e'
        cases e'
        exact cellK (J.freeC y _ c1) z4
  · obtain ⟨w', z⟩ := J.cell y c (cm e)
    exact ⟨w', cellK (J.freeC y c (cm e)) z⟩
  · obtain ⟨v, o, ho, hd⟩ := J.cell y c (cm e)
    exact un.free c o ho (J.freeC y c (cm e)) (by simp)
/-- a slot is no more told -/
theorem unset (J : Inv X pins σ H s) (i0 : Nat) : Inv X pins (σ.set i0 none) H s := by
  obtain ⟨h1, h2, h3, h4, ⟨m, h5, h6⟩, h7, h8, h9, h10, h11, h12⟩ := J
  refine ⟨h1, h2, h3, h4, ⟨m, h5, fun i y v e1 e2 e3 => h6 i y v e1 ?_ e3⟩, h7, h8, h9, h10, h11, by rw [List.length_set]; exact h12⟩
  by_cases c : i0 = i
  · subst c
    by_cases z : i0 < σ.length
    · rw [List.getElem?_set_self z] at e2; cases e2
    · rw [List.set_eq_of_length_le (Nat.le_of_not_lt z)] at e2; exact e2
  · rwa [List.getElem?_set_ne c] at e2
theorem set_none (σ : L2.St) (i0 : Nat) (v : V) : (σ.set i0 none)[i0]? ≠ some (some v) := by
  by_cases z : i0 < σ.length
  · rw [List.getElem?_set_self z]; intro e; cases e
  · rw [List.getElem?_eq_none (by rw [List.length_set]; omega)]; intro e; cases e
/-- a(), in the def that got it -/
theorem act {CXg : CXT} {Eg : XK} {Ng : List Str} {qg x : Str} {sg : Scope} {g f c' dt : Addr} {cdg pm ctv v : Value} {params : Arguments} {body : Expr} {scope : Scope} {ar : Arg} {k i : Nat} {a : Str} {pn : List (Addr × Obj)} {xe : Value → Shared → Prop} {W : WX} {E : XK} {tb : TE} {p1 p2 : Pos} {i0 : Nat}
    (J : Inv X pins σ H s) (L : LamD X.env.scope scope x) (hN : ∀ i : Nat, X.N[i]? = some x → i = i0) (hf : s.heap.get? f = some (obD (X.env.qual ++ "<lambda>") params body scope (cloFrom X.env.cells scope.names []) (.ref dt) pm c' ctv)) (hfn : H f = none) (hfr : f ∉ frs X.stack)
    (hdt : s.heap.get? dt = some { cls := .type "tuple", data := .seq #[v] }) (hdn : H dt = none) (hdr : dt ∉ frs X.stack) (b1 : params.posonlyargs = []) (b2 : params.args = [ar]) (b3 : params.vararg = none) (b4 : params.kwonlyargs = []) (b5 : params.kwarg = none) (bx : ar.arg = x)
    (tk : Takes ((cxOf CXg X.prog X.w X.K X.mg X.base Ng qg sg g cdg X.A X.stack s H Eg).tr pn xe) W) (hW : ∀ cls d σ' H', E cls d H' → W cls d σ' H') (hr : Room (k + 1) (X.A.deeper (envOfC qg sg s.heap.objs.size g cdg)))
    (hbody : ∀ (A : Around) (outer : List PySem.Env) (s : Shared) (H : Hp), Room k (A.deeper (LamX.lamEnv X scope s.heap.objs.size f c')) → PE (LamX.lamCx X A outer s H E scope f c') body tb)
    (hNg : Ng[i]? = some a) (hv : Vis sg a) (hd : (a == ("__debug__" : Str)) = false) (hcd : (a == ("__classdict__" : Str)) = false) :
    PE ((cxOf CXg X.prog X.w X.K X.mg X.base Ng qg sg g cdg X.A X.stack s H Eg).tr pn xe) (.Call (.Name a p1) [] [] p2)
      (fun σZ HZ Q => σZ[i]? = some (some (.ref f)) ∧ HZ c' = some (LamX.CodeO c' (X.env.qual ++ "<lambda>")) ∧ tb (σ.set i0 none) HZ Q) := by
  constructor
  rintro pinsZ sZ σZ HZ Q JZ ⟨hs, hc, ht⟩
  apply wpAny_Call_Name_kw
  apply thn ((pe_var (pos := p1) (i := i) hNg hv hd hcd).run pinsZ sZ σZ HZ (fun v H1 => v = .ref f ∧ H1 = HZ) JZ ⟨.ref f, hs, rfl, rfl⟩)
  rintro u s1 ⟨v1, H1, J1, r1, ev, eH⟩
  subst ev
  rw [eH] at J1
  obtain rfl : u = Value.ref f := r1
  have none_in : ∀ z : Addr, z ∉ ([] : List Addr) := fun z q => nomatch q
  have of1 := J1.base.keep f _ hf hfn hfr (none_in f)
  have od1 := J1.base.keep dt _ hdt hdn hdr (none_in dt)
  refine PySem.W.callWith_F0 ⟨_, _, _, _, of1⟩ ?_
  have un : Un (frs X.stack) [] H HZ s.heap s1.heap := J1.base
  obtain ⟨⟨oc, vs, t, hoc, hdc, hvc⟩, _, _⟩ := J1.hok c' _ hc
  have rc : codeAny (model X.prog X.w) (X.A.deeper (envOfC qg sg s.heap.objs.size g cdg)) (.call (.ref f) ⟨[], []⟩) (CR (L2.CX X.prog X.w) (envOfC qg sg s.heap.objs.size g cdg :: X.stack) X.prog X.w HZ s1 Q E) s1 := by
    refine PySem.W.kla_callFunE hr.depth of1 rfl L.co L.gen rfl ⟨c', oc, vs, t, rfl, hoc, hdc, hvc⟩ ?_
    refine bind_one b1 b2 b3 b4 b5 od1 ?_
    refine wpAny_newFunctionEnv L.cel (fun y hy => ?_) (fun h₁ hns hsb => ⟨J1.nolimit.fresh _ hsb, ?_⟩) L.kind
    · rw [List.mem_singleton.mp hy]
      show scope.names.lookup ar.arg = _
      rw [bx]
      exact L.here
    show codeAny _ _ (.expr body (LamX.lamEnv X scope s1.heap.objs.size f c')) _ _
    have kp : ∀ b o, s1.heap.get? b = some o → h₁.get? b = some o := fun b o e => hsb.extBut b o (Nat.ne_of_lt (Heap.lt_size e)) (Heap.get?_push_of_some _ e)
    have J2 : Inv (LamX.lamCx X (X.A.deeper (envOfC qg sg s.heap.objs.size g cdg)) (envOfC qg sg s.heap.objs.size g cdg :: X.stack) s1 HZ E scope f c') [] (σ.set i0 none) HZ { s1 with heap := h₁, toks := s1.toks + ([(ar.arg, v)] : List (Str × Value)).length } :=
      start (unset J i0) L (fun i e v => by rw [hN i e]; exact set_none σ i0 v) J1.env0 hr.hd un hns kp
    refine PySem.W.kla_codeExpr (wpAny_mono ((hbody _ _ s1 HZ (hr.deeper _)).run [] _ _ HZ Q J2 ht) (fun v s' hq => ?_) fun _ _ hq => hq)
    obtain ⟨w', H', J', rv, q⟩ := hq
    exact ⟨w', H', J'.os, J'.bare, J'.base, J'.hok, rv, q⟩
  have hx : Passes (L2.CX X.prog X.w) ((cxOf CXg X.prog X.w X.K X.mg X.base Ng qg sg g cdg X.A X.stack s H Eg).tr pn xe) E := passes_call tk hW
  refine wpAny_call (codeAny_mono rc ?_)
  intro out s' hq
  cases out with
  | error e => exact hx pinsZ σZ HZ s1 e s' J1 hq
  | ok fl => cases fl <;> first | exact False.elim hq | exact J1.after hq
end
section
variable {X : Cx}
/-- x(lambda n = 0: body) -/
theorem pe_lamD {T : List (Addr × Str)} {TT : (XK → Hp → VK → Prop) → Hp → VK → Prop} {x a n : Str} {g c P : Addr} {k : Nat} {pg : Arguments} {bg : List Stmt} {sg : Scope} {dV kV doc pm cdv ct oc : Value} {an od : Option Addr} {osl : Array (Option Value)} {Ng : List Str}
    {params : Arguments} {body : Expr} {scope : Scope} {t : XK → TE} {p lpos pos dp : Pos} {ar : Arg} {i : Int} {j : Nat} (hg : Gl X x) (hm : X.mg x = some (.ref g)) (hk : PySem.W.keepIn X.K (.ref g) = true)
    (lk : X.K.lookup g = some ⟨oc, od, .func (PySem.W.fnOf x x pg bg sg dV kV doc pm an cdv ct), osl⟩) (hcg : PySem.W.codeIn X.K cdv x = true) (hb : L2.Binds X.K (PySem.W.fnOf x x pg bg sg dV kV doc pm an cdv ct) [a] []) (Sg : FnScope Ng [a] sg) (hNg : Ng[0]? = some a) (hva : Vis sg a)
    (hG : LamX.GivesTo X Ng x sg g cdv bg a (X.env.qual ++ "<lambda>") TT)
    (B : LamX.TabB X.base X.mg c P) (hcode : X.env.code = .ref c) (hmT : (P, X.env.qual ++ "<lambda>") ∈ T) (hu : ∀ p ∈ T, p.1 = P → p.2 = X.env.qual ++ "<lambda>") (hr : Room (k + 2) X.A) (L : LamD X.env.scope scope n) (i0 : Nat) (hN : ∀ i : Nat, X.N[i]? = some n → i = i0) (hdef : defaultsOf params X.env = ([eval (.Constant (.int i) j dp) X.env], []))
    (b1 : params.posonlyargs = []) (b2 : params.args = [ar]) (b3 : params.vararg = none) (b4 : params.kwonlyargs = []) (b5 : params.kwarg = none) (bx : ar.arg = n)
    (hbody : ∀ (A : Around) (outer : List PySem.Env) (s : Shared) (H : Hp) (E : XK) (f c' : Addr), Room k (A.deeper (LamX.lamEnv X scope s.heap.objs.size f c')) → PE (LamX.lamCx X A outer s H E scope f c') body (t E))
    (hdb : (x == ("__debug__" : Str)) = false) (hd : (a == ("__debug__" : Str)) = false) (hcd : (a == ("__classdict__" : Str)) = false) :
    PE X (.Call (.Name x p) [.Lambda params body scope lpos] [] pos) (LamX.tLam T TT fun E σ H Q => t E (σ.set i0 none) H Q) := by
  constructor
  rintro pins s σ H Q J ⟨hT, h⟩
  apply wpAny_Call_Name_kw
  apply ld_glob J hg hm _ hdb
  refine PySem.W.callWith_K (h₀ := X.base) J.ok.mod.kin hk ?_ (by rfl) (by rfl)
  show wpAny _ _ (spliced ((false, eval (.Lambda params body scope lpos) X.env) :: backTo pos (starEach [] X.env))) _ _ s
  refine Calls.spliced_cons (made J B hcode hmT hu hT hdef b4 (L.has J.ok) fun f c' dt v pm' ctv H1 s' J1 eN T1 hv hdt hdn hdr hf hfn hfr hco => ?_)
  refine Calls.spliced_nil ⟨J1.kIn, ?_⟩
  have rc : codeAny (model X.prog X.w) X.A (.call (.ref g) ⟨[.ref f], []⟩) (CR C8.CX0 X.stack X.prog X.w H1 s' Q C8.E0) s' := by
    refine LamX.run_ofS (N := Ng) (ps := [a]) (us := [.ref f]) (vs := [.ref f]) lk hcg Sg hr J1.env0 (hb s' [.ref f] J1.kIn rfl) (.cons rfl .nil) rfl fun hr' => ?_
    obtain ⟨t', ht', hq'⟩ := hG f c' s' H1 Q (fun E H' Q' => t E (σ.set i0 none) H' Q') (fun W pn xe E p1 p2 tk hW => act (i := 0) J1 L hN hf hfn hfr hdt hdn hdr b1 b2 b3 b4 b5 bx tk hW hr' (fun A outer s H hr2 => hbody A outer s H E f c' hr2) hNg hva hd hcd) hco (h H1 eN T1)
    exact ⟨t', ht'.nox, hq'⟩
  refine wpAny_call (codeAny_mono rc ?_)
  intro out s2 hq
  cases out with
  | error e => exact (show False from hq).elim
  | ok fl => cases fl <;> first | exact False.elim hq | exact J1.after hq
end
end LD
/-- .. with slot i0 out of sight -/
def lamHK (i0 : Nat) (f : Rk → Rc) (e : EV) : EV := fun ρ => ofRc ρ (f (asHook (e (put (hideO ρ) i0 .no))))
section
variable {K : PySem.W.Frag} {TB : List (Addr × Str)} {C : CT} {Wx : WX} {H : Hp} {W : Addr → Prop} {O : OA} {σ : L2.St} {ρ : Env}
open PySem PySem.Spec PyProof.Rows L2
theorem EnvRep.unset (h : EnvRep K TB H W O σ ρ) (i0 : Nat) (hO : O i0 = none) : EnvRep K TB H W O (σ.set i0 none) (put ρ i0 .no) := by
  refine ⟨by rw [put_length, List.length_set]; exact h.len, fun i => ?_, h.inj, h.out, h.wt, h.tab⟩
  by_cases c : i = i0
  · subst c
    have e : slotAt (put ρ i .no) i = .no := (slot_put_any ρ .no).elim id (·.1)
    rw [e, hO]
    rfl
  · rw [slot_put_ne ρ .no (Ne.symm c), List.getElem?_set_ne (Ne.symm c)]
    exact h.sl i
theorem sem_lamH {n i0 : Nat} {h : EH} {b : ES} {w : Ends → WX} {re : EV} {Q : VK} (hh : hSem K TB C wF w h) (g : tE K TB C Wx (lamHK i0 (metK n h b) re) σ H Q) :
    LamX.tLam TB (TTm K TB C n w b) (fun E σ H Q => tE K TB C (fun cls d _ H' => E cls d H') re (σ.set i0 none) H Q) σ H Q := by
  obtain ⟨W, O, ρ, en, g⟩ := g
  refine ⟨en.tab, fun H1 ex tb => ?_⟩
  have kp : KeepN H H1 := fun b o e z => ex b o e z
  have en1 := (en.keepN kp tb).hide.unset i0 rfl
  have wt1 : ∀ a, NG W O a → ∃ o, H1 a = some o ∧ nt o := en1.wt
  have fin : ∀ (r : R PB.Flow) (H2 : Hp) (σ2 : L2.St) (D : Ends) (Nw : Addr → Prop), D.rt = Q → KeepN H H2 → Go TB C Wx (kdV K TB σ) H W O ρ (ofRc ρ (retOnly r)) Q →
      SGo K TB C wF no1 H2 (NG W O) (fun _ => none) (PB.nos n) σ2 r (FG K TB Nw (NG W O) D) := by
    intro r H2 σ2 D Nw hD k2 g
    cases r with
    | bad => exact g
    | exc c x => exact g.elim
    | ok fl ρ2 =>
      cases fl with
      | next => exact g.elim
      | ret t k =>
        cases k with
        | f => exact g.elim
        | p i => exact g.elim
        | s =>
          intro σ3 H3 O3 sp en3 v vp
          rw [hD]
          have k3 : KeepN H H3 := k2.trans fun b o e z => sp.keep b o e (fun ⟨_, _, _, z, _⟩ => by cases z) z
          refine g v H3 O ⟨fun _ _ e => e, fun b o e _ z => k3 b o e z, fun b o e z => ⟨o, k3 b o e z, z⟩, fun _ e => e, fun _ _ t e => ⟨t, e⟩, fun _ e => e, fun _ _ e => ⟨e, rfl⟩⟩ ⟨?_, en.keepN k3 en3.tab⟩
          exact vp.1.weak fun b q => .inl q
  refine ⟨NG W O, fun _ => none, put (hideO ρ) i0 .no, en1, ?_⟩
  have g : Go TB C Wx (kdV K TB σ) H W O ρ (ofRc ρ (metK n h b (asHook (re (put (hideO ρ) i0 .no))))) Q := g
  cases er : re (put (hideO ρ) i0 .no) with
  | bad => rw [er] at g; exact g.elim
  | ok x ρ1 =>
    rw [er] at g
    intro v H2 O2 p vp σ' hl
    have g2 : Go TB C Wx (kdV K TB σ) H W O ρ (ofRc ρ (retOnly (b (PB.nos n)))) Q := by
      obtain ⟨t, k⟩ := x
      cases k with
      | s => exact g
      | f => exact g
      | p i => exact g.elim
    have k2 : KeepN H1 H2 := fun b o e z => p.keep b o e (fun ⟨_, _, _, z, _⟩ => by cases z) z
    have en2 : EnvRep K TB H2 (NG W O) (fun _ => none) σ' (PB.nos n) := .nos (fun a w => by
      obtain ⟨o, e, z⟩ := wt1 a w
      exact ⟨o, k2 a o e z, z⟩) (VPost.env vp).tab hl
    exact ⟨NG W O, fun _ => none, PB.nos n, en2, fin _ H2 σ' (DZ Q) _ rfl (kp.trans k2) g2⟩
  | exc c x =>
    rw [er] at g
    intro cls d σx H2 xp σ' hl
    have g2 : Go TB C Wx (kdV K TB σ) H W O ρ (ofRc ρ (retOnly (h c x (PB.nos n)))) Q := g
    have en0 : EnvRep K TB H1 (NG W O) (fun _ => none) (List.replicate n none) (PB.nos n) := .nos wt1 tb (by simp)
    refine hh (DM K TB C b Q) c x cls d H1 (NG W O) (fun _ => none) (PB.nos n) (List.replicate n none) σ' H2 en0 (allMay_nos n) ⟨xp.cls, xp.pay, fun b o e _ z => xp.keep b o e (fun ⟨_, _, _, z, _⟩ => by cases z) z, xp.tab, xp.per⟩ (by rw [hl]; simp) ?_
    rw [nos_len]
    exact fin _ H1 _ _ _ rfl kp g2
end
/-- i0 is the only place of this name -/
def onlyAt (nm : PySem.Str) (i0 : Nat) : Nat → List PySem.Str → Bool
  | _, [] => true
  | i, x :: r => (!(x == nm) || Nat.beq i i0) && onlyAt nm i0 (i + 1) r
theorem onlyAt_ok {nm : PySem.Str} {i0 : Nat} : ∀ (N : List PySem.Str) (k : Nat), onlyAt nm i0 k N = true → ∀ i : Nat, N[i]? = some nm → k + i = i0
  | [], k, h, i, e => by cases e
  | x :: r, k, h, i, e => by
    obtain ⟨h1, h2⟩ := He.ba h
    cases i with
    | zero =>
      cases e
      rw [beq_self_eq_true] at h1
      exact Nat.eq_of_beq_eq_true h1
    | succ i =>
      have := onlyAt_ok r (k + 1) h2 i e
      omega
section
variable {X : Cx} {TB : List (Addr × Str)} {C : CT} {Wx : WX}
open PySem PySem.Spec PyProof.Rows L2
theorem q_lamD {x nm : Str} {k m n : Nat} {h : EH} {b : ES} {params : Arguments} {body : Expr} {scope : Scope} {re : EV} {p lpos pos dp : Pos} {ar : Arg} {i : Int} {j : Nat} (M : Met X.prog X.w X.K X.mg TB C x n h b) (B : LamB X TB) (c : Cxt X Wx m)
    (hbody : ∀ (A : Around) (outer : List PySem.Env) (s : Shared) (H : Hp) (E : XK) (f c' : Addr), Cxt (LamX.lamCx X A outer s H E scope f c') (fun cls d _ H' => E cls d H') k → PE (LamX.lamCx X A outer s H E scope f c') body (tE X.K TB C (fun cls d _ H' => E cls d H') re))
    (i0 : Nat) (hN : onlyAt nm i0 0 X.N = true := by kernel_rfl) (hk : k + 2 ≤ m := by decide) (hg : Gl X x := by rfl) (L : LD.lamDB X.env.scope scope nm = true := by kernel_rfl) (hdef : defaultsOf params X.env = ([eval (.Constant (.int i) j dp) X.env], []) := by rfl)
    (b1 : params.posonlyargs = [] := by rfl) (b2 : params.args = [ar] := by rfl) (b3 : params.vararg = none := by rfl) (b4 : params.kwonlyargs = [] := by rfl) (b5 : params.kwarg = none := by rfl) (bx : ar.arg = nm := by rfl) :
    PE X (.Call (.Name x p) [.Lambda params body scope lpos] [] pos) (tE X.K TB C Wx (lamHK i0 (metK n h b) re)) := by
  obtain ⟨g, fd, pg, sg, Ng, a, h₀, hds, sts, p1, p2, p3, p4, wv, F, hm, hb, Sg, hn, hNg, hva, hh, hr, hS, d1, d2, d3⟩ := M.ex
  obtain ⟨cc, P, TBb, hcode, hmT, hu⟩ := B.ex
  obtain ⟨oc, od, dV, kV, doc, pm, an, cdv, ct, osl, rfl, lk, hcd, _, _⟩ := F.ex
  have hN2 : ∀ i : Nat, X.N[i]? = some nm → i = i0 := fun i z => by
    have := onlyAt_ok X.N 0 hN i z
    omega
  exact (LD.pe_lamD hg hm F.kp lk hcd hb Sg hNg hva (met_gives hn (fun s H => hh _ _ _ _ s H) fun s H => hr _ _ _ _ s H) TBb hcode hmT hu (c.rm.mono hk) (LD.lamD_by L) i0 hN2 hdef b1 b2 b3 b4 b5 bx (fun A outer s H E f c' hr2 => hbody A outer s H E f c' (cxt_lam c hr2)) d1 d2 d3).mono fun σ H Q g => sem_lamH hS g
end
end PB
end

section
set_option Elab.async false
set_option linter.all false
set_option maxRecDepth 100000
set_option maxHeartbeats 400000
/-! Sound52: for .. in D.items(), D a dict of the module: texts to whole numbers. -/
namespace PB
open PySem PySem.Spec PyProof.Rows L2
/-- the dict of the written part at d: these texts, these whole numbers -/
structure LitD (P : Program) (w : World) (K : PySem.W.Frag) (d : Addr) (kvs : List (Str × Int)) : Prop where
  low : (d == sysModules) = false
  lit : ∃ es n, KDict K w d es n ∧ ∀ z, RelO ((kvs.lookup z).map V.int) (findBy Value.isStrOf es z)
  at_ : ∃ (vs : List (Key × Value)) (ep : Nat), KV (kvs.map fun p => ((.inr p.1 : Key), V.int p.2)) vs ∧ ∀ h, K.In h → h.DictAt (mixKind P w) d vs ep
def isI (j : Int) : Value → Bool
  | .int i _ => i == j
  | _ => false
theorem isI_ok {j : Int} {v : Value} (h : isI j v = true) : ∃ t, v = .int j t := by
  cases v with
  | int i t => exact ⟨t, by rw [show i = j from beq_iff_eq.mp h]⟩
  | _ => cases h
def intsB : List DictEntry → List Int → Bool
  | [], [] => true
  | e :: r, j :: l => isI j e.val && intsB r l
  | _, _ => false
def dictB (K : PySem.W.Frag) (d : Addr) (ns : List Int) : Bool := match K.lookup d with
  | some ⟨_, _, .dict es _, _⟩ => intsB es.toList ns
  | _ => false
theorem entries_of {P : Program} {w : World} : ∀ {l : List DictEntry} {kvs : List (Str × Int)}, l.map He.keyOf = He.keysIn w.params (kvs.map (·.1)) → intsB l (kvs.map (·.2)) = true →
    ∃ vs : List (Key × Value), KV (kvs.map fun p => ((.inr p.1 : Key), V.int p.2)) vs ∧ Pairs (mixKind P w) l vs ∧ (∀ e ∈ l, ∃ k, (mixKind P w).is k e.key = true ∧ e.hash = (mixKind P w).hash k) ∧ ∀ z, RelO ((kvs.lookup z).map V.int) ((l.find? fun e => Value.isStrOf z e.key).map (·.val))
  | [], [], _, _ => ⟨[], .nil, .nil, (fun e he => by cases he), fun z => True.intro⟩
  | [], _ :: _, h, _ => by cases h
  | _ :: _, [], h, _ => by cases h
  | e :: r, p :: kvs, h, hi => by
    have h1 : He.keyOf e :: r.map He.keyOf = some (p.1, PyData.keyHash w.params p.1) :: He.keysIn w.params (kvs.map (·.1)) := h
    injection h1 with h2 h3
    obtain ⟨i1, i2⟩ := He.ba (show (isI p.2 e.val && intsB r (kvs.map (·.2))) = true from hi)
    obtain ⟨vs, a1, a2, a3, a4⟩ := entries_of (P := P) h3 i2
    obtain ⟨t, et⟩ := isI_ok i1
    unfold He.keyOf at h2
    split at h2
    · rename_i x tk q
      have h4 := Option.some.inj h2
      obtain ⟨h5, h6⟩ := Prod.mk.inj h4
      subst h5
      have ik : (mixKind P w).is (.inr p.1) e.key = true := by
        rw [q]
        exact keyIs_str p.1 tk
      refine ⟨((.inr p.1 : Key), e.val) :: vs, .cons ⟨rfl, ⟨t, et⟩⟩ a1, .cons ik rfl a2, fun e' he' => ?_, fun z => ?_⟩
      · rcases List.mem_cons.mp he' with rfl | he'
        · exact ⟨.inr p.1, ik, by rw [h6]; rfl⟩
        · exact a3 e' he'
      · have ek : Value.isStrOf z e.key = (z == p.1) := by
          rw [q]
          by_cases c : z = p.1
          · subst c; simp [Value.isStrOf]
          · rw [beq_eq_false_iff_ne.mpr c]; simp [Value.isStrOf, c, Ne.symm c]
        rw [List.find?_cons, ek]
        show RelO (((p.1, p.2) :: kvs).lookup z |>.map V.int) _
        rw [List.lookup_cons]
        cases c : z == p.1 with
        | true => exact ⟨t, et⟩
        | false => exact a4 z
    · cases h2
theorem litD_of {P : Program} {w : World} {K : PySem.W.Frag} {d : Addr} {kvs : List (Str × Int)} (h : He.dicW K d = some (He.keysIn w.params (kvs.map (·.1)))) (hi : dictB K d (kvs.map (·.2)) = true) (nd : (kvs.map (·.1)).Nodup) : LitD P w K d kvs := by
  obtain ⟨es, n, D⟩ := He.dicW_ok h
  unfold He.dicW at h
  unfold dictB at hi
  rw [D.at_] at h hi
  have h1 : (match decide (("dict" : String) = "dict") && (true && !(d == sysModules)) with
      | true => some (es.toList.map He.keyOf)
      | false => none) = some (He.keysIn w.params (kvs.map (·.1))) := h
  rw [D.low] at h1
  obtain ⟨vs, a1, a2, a3, a4⟩ := entries_of (P := P) (Option.some.inj h1) hi
  have nk : (vs.map (·.1)).Nodup := by
    have e : vs.map (·.1) = (kvs.map (·.1)).map (Sum.inr : Str → Key) := by
      have : ∀ {l : List (Str × Int)} {vs : List (Key × Value)}, KV (l.map fun p => ((.inr p.1 : Key), V.int p.2)) vs → vs.map (·.1) = (l.map (·.1)).map (Sum.inr : Str → Key) := by
        intro l
        induction l with
        | nil => intro vs k; cases k; rfl
        | cons q l ih =>
          intro vs k
          cases k with
          | cons a b => rw [List.map_cons, List.map_cons, List.map_cons, ih b, ← a.1]
      exact this a1
    rw [e]
    exact nd.map _ fun a b z => fun q => z (Sum.inr.inj q)
  exact ⟨D.low, ⟨es, n, D, fun z => by unfold findBy; rw [← Array.find?_toList]; exact a4 z⟩, vs, n, a1, fun h X => ⟨_, es, X _ _ D.at_, ⟨rfl, rfl, rfl⟩, rfl, fun e he => a3 e (Array.mem_toList_iff.mpr he), a2, nk⟩⟩
end PB
end

section
set_option Elab.async false
set_option linter.all false
set_option maxRecDepth 100000
set_option maxHeartbeats 400000
/-! Sound53: the walk over such a dict's items; D.get(text, int). -/
namespace PB
open PySem PySem.Spec PyProof.Rows L2
abbrev litKV (kvs : List (Str × Int)) : List (Key × V) := kvs.map fun p => ((.inr p.1 : Key), V.int p.2)
/-- the pairs in their order, each a new tuple -/
def ItLit (kvs : List (Str × Int)) : It :=
  ⟨fun i _ => i < kvs.length, fun i H x H' => ∃ T p, kvs[i]? = some p ∧ x = .ref T ∧ H T = none ∧ H' = upd H T (.tup [.str p.1, .int p.2]), fun i _ => kvs.length ≤ i⟩
section
variable {P : Program} {w : World} {K : PySem.W.Frag} {d : Addr} {kvs : List (Str × Int)}
theorem turn_lit {elts : List Expr} {kk : Nat} {tpos : Pos} (it : Addr) {ep : Nat} {vs : List (Key × Value)} (hv : KV (litKV kvs) vs) (D : ∀ h, K.In h → h.DictAt (mixKind P w) d vs ep) :
    Turn P w K (.Tuple elts kk tpos) (ItLit kvs) [it] it (fun i h => ∃ a b, IsItemIter h it d i vs.length ep a b) where
  mem := List.mem_singleton.mpr rfl
  obj := fun i h st b hb => by
    obtain ⟨a, c, e⟩ := st
    rw [List.mem_singleton.mp hb]
    exact ⟨_, e, fun v z => nomatch z⟩
  keep := fun i h h' st k => by
    obtain ⟨a, c, e⟩ := st
    exact ⟨a, c, k it (List.mem_singleton.mpr rfl) _ e⟩
  item := by
    intro X hP hw hK hc i pins s σ H E I hf st hg
    subst hP hw hK
    have hlen : kvs.length = vs.length := by
      have := Paired.length hv
      rw [List.length_map] at this
      exact this
    obtain ⟨p, hp⟩ : ∃ p, kvs[i]? = some p := ⟨kvs[i], List.getElem?_eq_getElem hg⟩
    have hkv : (litKV kvs)[i]? = some ((.inr p.1 : Key), V.int p.2) := by
      rw [List.getElem?_map, hp]; rfl
    obtain ⟨u, hu, ru⟩ := kv_get hv hkv
    obtain ⟨a, c, st⟩ := st
    have hlt : it < s.heap.objs.size := Heap.lt_size st
    have mi : it ∈ [it] := List.mem_singleton.mpr rfl
    refine wpAny_pyNext_items_item st (D _ I.kIn) hu fun key h' hkey ho hT hz hk => ⟨_, rfl, wpAny_letOwnedTupleGo_items (s := { s with heap := h' }) ho fun h'' he' sb => ?_⟩
    have hT2 : h''.get? s.heap.objs.size = some { cls := .type "tuple", data := .seq #[key, u] } := (sb.2 _ (Nat.ne_of_gt hlt)).trans hT
    have new : ObjOk X.prog X.w (upd H s.heap.objs.size (.tup [.str p.1, .int p.2])) h'' s.heap.objs.size (.tup [.str p.1, .int p.2]) :=
      ⟨show 2 ≤ sizeLine by decide, [key, u], .cons (relV_key (show keyIs (.inr p.1) key = true from hkey)) (.cons ru .nil), ⟨_, hT2, rfl, _, rfl⟩⟩
    have J : Inv X pins σ (upd H s.heap.objs.size (.tup [.str p.1, .int p.2])) { s with heap := h'' } :=
      I.turnedNew (t' := s.toks) (ch := [it]) (fun b ob hb e => by
        have nb : b ≠ it := fun q => hb (by rw [q]; exact mi)
        exact (sb.2 b nb).trans (hk b ob nb e)) hf (Nat.le_refl _) new
    refine ⟨.ref s.heap.objs.size, _, J, rfl, ⟨_, p, hp, rfl, I.hok.fresh (Nat.le_refl _), rfl⟩, ⟨key, u, he'⟩, fun b hb => ?_⟩
    rw [List.mem_singleton.mp hb, upd_ne (Nat.ne_of_lt hlt)]
    exact (hf it mi).1
  done := by
    intro X hP hw hK hc i pins s σ H E I hf st hg
    subst hP hw hK
    have hlen : kvs.length = vs.length := by
      have := Paired.length hv
      rw [List.length_map] at this
      exact this
    obtain ⟨a, c, st⟩ := st
    obtain ⟨f0, f1, f2, f3, f4, f5⟩ := hf it (List.mem_singleton.mpr rfl)
    have hg : kvs.length ≤ i := hg
    exact wpAny_pyNext_items_end (I.ok.hd hc) st (D _ I.kIn) (List.getElem?_eq_none (by omega)) fun h' eb => ⟨rfl, I.turned (t' := s.toks) (fun b ob hb e => eb b ob hb e) f0 f1 f3 f4 f5⟩
  self := fun A i s Q E st h => by
    obtain ⟨_, _, e⟩ := st
    exact PySem.W.kcp_self e h
end
/-- the items as trees -/
def litT (l : List (List Nat × Int)) : List T := l.map fun p => .tup [.str p.1, .int p.2]
theorem ItOk.lit {K : PySem.W.Frag} {H : Hp} {B N : Addr → Prop} (l : List (List Nat × Int)) : ItOk K H B N (litT l) (ItLit (l.map fun p => (toStr p.1, p.2))) := by
  intro H' N' k kt hn
  refine ⟨fun j hj => ?_, fun j t e => ?_⟩
  · show (l.map _).length ≤ j
    rw [List.length_map]
    rw [show (litT l).length = l.length from List.length_map ..] at hj
    exact hj
  · have e : (l.map fun p => T.tup [.str p.1, .int p.2])[j]? = some t := e
    rw [List.getElem?_map] at e
    cases z : l[j]? with
    | none => rw [z] at e; cases e
    | some p =>
      rw [z] at e
      cases e
      have hj := (List.getElem?_eq_some_iff.mp z).1
      refine ⟨by show j < (l.map _).length; rw [List.length_map]; exact hj, ?_⟩
      rintro x H'' ⟨T, q, f1, f2, f3, f4⟩
      rw [List.getElem?_map, z] at f1
      cases f1
      subst f2 f4
      exact ⟨Grow.upd f3, .tup (SqT.of upd_same) (.cons (.str _) (.cons (.int _) .nil))⟩
section
variable {X : Cx} {TB : List (Addr × Str)} {C : CT} {Wx : WX} {x : Str} {d : Addr} {elts : List Expr} {kk : Nat} {tpos p apos cpos : Pos}
theorem q_litems (l : List (List Nat × Int)) (D : LitD X.prog X.w X.K d (l.map fun p => (toStr p.1, p.2))) (hm : X.mg x = some (.ref d)) (hg : Gl X x := by rfl) (hdb : (x == ("__debug__" : Str)) = false := by decide)
    (hbase : attributeBase (.Name x p) "items" X.env (eval (.Name x p) X.env) = eval (.Name x p) X.env := by rfl) (hline : (apos.endLine == cpos.line) = true := by rfl) :
    PI X (.Tuple elts kk tpos) (.Call (.Attribute (.Name x p) "items" apos) [] [] cpos) (tI X.K TB C Wx [] (itsK (litT l))) := by
  refine ⟨fun pins s σ H R I h => ?_⟩
  obtain ⟨W, O, ρ, en, g⟩ := h
  obtain ⟨vs, ep, kv, at_⟩ := D.at_
  have q : R (ItLit (l.map fun p => (toStr p.1, p.2))) H := g _ H O Post.refl ⟨W, fun _ z => z, en, ItOk.lit l, fun b z => .inl z⟩
  refine wpAny_Call_method (T := "dict") (id := "dict.items") hbase rfl hline F.plainAttrs_dict F.slot_dict_items F.type_dict_items ?_
  refine ld_glob I hg hm ?_ hdb
  have DA : s.heap.DictAt (mixKind X.prog X.w) d vs ep := at_ _ I.kIn
  have hlen : (l.map fun p => (toStr p.1, p.2)).length = vs.length := by
    have := Paired.length kv
    rw [List.length_map] at this
    exact this
  refine ⟨DA.dictOf.typeIs, DA.dictOf.mapOf.noDict, ?_⟩
  have J : Inv X pins σ H { s with heap := s.heap.push { cls := .type "dict_items", data := .fields #[.ref d] } } := I.kept (t' := s.toks) fun b ob q => Heap.get?_push_of_some _ q
  have goal : wpAny (model X.prog X.w) X.A (pyIter (.ref s.heap.objs.size)) (PIE X pins σ (.Tuple elts kk tpos) R) X.xe { s with heap := s.heap.push { cls := .type "dict_items", data := .fields #[.ref d] } } :=
    wpAny_pyIter_items (d := d) (knd := mixKind X.prog X.w) ⟨_, Heap.get?_push_size _ rfl, rfl, rfl⟩ (DA.push _) (pi_one (tk := s.toks) J _ (turn_lit _ kv at_) ⟨.none, .none, Heap.get?_push_size _ rfl⟩ q)
  show wpAny _ _ (callWith cpos (.builtin "dict.items") [.ref d] [] []) _ X.xe s
  exact method_meetsIn F.slot_dict_items F.entry_dict_items rfl (PySem.evalArgs_none ⟨rfl, DA.dictOf.typeIs, F.args_dict_items_1 _, _, meets_dict_items (mixKind X.prog X.w) d D.low, ⟨vs, DA.dictOf⟩, goal⟩)
end
end PB
end

section
set_option Elab.async false
set_option linter.all false
set_option maxRecDepth 100000
set_option maxHeartbeats 400000
/-! Sound54: a tuple times a whole number; text.startswith(text); slices of texts; D.get(text, int) of a module's dict. -/
namespace PB
open PySem PySem.Spec PyProof.Rows L2
/-! ### a tuple many times -/
def repT : T → T → Option TK
  | .tup (x :: xs), .int j => cond (iLe 2 j && iLe j 1000) (cond (Nat.ble (xs.length + 1) 1000) (some ⟨.tup (List.replicate j.toNat (x :: xs)).flatten, .s⟩) none) none
  | _, _ => none
def repK (a b : EV) : EV := fun ρ => (a ρ).bind fun x ρ => (b ρ).bind fun y ρ => ofOpt (repT (val ρ x) (val ρ y)) ρ
theorem ok_repT {X : Cx} : OpR X (binaryOp .Mult) (rOp X.K repT) := by
  intro pins s σ H x y v u Q I rx ry h
  obtain ⟨N, t, u', r, hx, hy, e, q⟩ := h
  unfold repT at e
  split at e
  · obtain ⟨c, e⟩ := cond_some e
    obtain ⟨c2, e⟩ := cond_some e
    cases e
    obtain ⟨a, vs, e1, ha, ra⟩ := hx.tup
    rw [e1] at rx
    rw [hy.int] at ry
    rename_i z zs j _
    obtain ⟨c0, c1⟩ := and_t c
    have c0 := le_of c0
    have c1 := le_of c1
    have c2 : zs.length + 1 ≤ 1000 := Nat.le_of_ble_eq_true c2
    have hl := ra.length
    refine op_repT pins s σ H _ _ v u Q I rx ry ⟨a, j, vs, rfl, rfl, ha, fun z => ?_, c0, c1, ?_, q.newT (ra.rep j.toNat)⟩
    · rw [z] at hl; cases hl
    · rw [← hl]; exact c2
  · cases e
section
variable {X : Cx} {TB : List (Addr × Str)} {C : CT} {Wx : WX} {a b : Expr} {ra rb : EV} {pos : Pos}
theorem q_rep (ha : PE X a (tE X.K TB C Wx ra)) (hb : PE X b (tE X.K TB C Wx rb)) : PE X (.BinOp a .Mult b pos) (tE X.K TB C Wx (repK ra rb)) := by
  refine (pe_op ok_repT ha hb).mono fun σ H Q g => ?_
  refine two g fun W O ρ x y v u H2 en rx ry g => ?_
  obtain ⟨r, e, q⟩ := Go.ofOpt en g
  exact ⟨_, _, _, _, rx, ry, e, q⟩
end
/-! ### startswith -/
def swT : T → List T → Option TK
  | .str s, [.str p] => some ⟨.bl (Txt.startswith (toStr s) (toStr p)), .s⟩
  | _, _ => none
def swK (x : EV) (es : EVs) : EV := fun ρ => (x ρ).bind fun y ρ => cond (isStr (val ρ y)) ((es ρ).bind fun l ρ => ofOpt (swT (val ρ y) (trees ρ l)) ρ) .bad
theorem ok_sw {X : Cx} : MtR X "str.startswith" (rM X.K swT) := by
  intro pins s σ H x xs v us Q I rx rxs h
  obtain ⟨N, t, ts, r, hx, hs, e, q⟩ := h
  unfold swT at e
  split at e
  · cases e
    obtain ⟨w, rfl, hw⟩ := hs.one
    exact mt_startswith pins s σ H x _ v us Q I rx rxs ⟨_, _, hx.str, by rw [hw.str], q.sh (.bl _)⟩
  · cases e
theorem tyV_str {K : PySem.W.Frag} {N : Addr → Prop} {H : Hp} {t : T} {v : V} (r : RRep K H N t v) (h : isStr t = true) : tyV K "str" v H := by
  cases t with
  | str z => rw [r.str]; rfl
  | _ => cases h
section
variable {X : Cx} {TB : List (Addr × Str)} {C : CT} {Wx : WX} {a e : Expr} {es : List Expr} {ra : EV} {rl : EVs} {apos cpos : Pos}
theorem q_sw (ho : PE X a (tE X.K TB C Wx ra)) (ha : PA X (e :: es) (tA X.K TB C Wx rl)) (hbase : attributeBase a "startswith" X.env (eval a X.env) = eval a X.env := by rfl)
    (hfew : ((backTo cpos (starEach (e :: es) X.env)).all (fun x => !x.1) && (backToKw cpos (keywordEach [] X.env)).all (fun x => x.1.isSome)
      && decide ((e :: es).length + ([] : List Keyword).length + (if ([] : List Keyword).isEmpty then 0 else 1) < 30)) = true := by rfl)
    (hline : (apos.endLine == cpos.line) = true := by rfl) (hs : starEach (e :: es) X.env = (false, eval e X.env) :: starEach es X.env := by rfl) (hplain : (backTo cpos (starEach es X.env)).any (·.1) = false := by rfl) :
    PE X (.Call (.Attribute a "startswith" apos) (e :: es) [] cpos) (tE X.K TB C Wx (swK ra rl)) := by
  refine (pe_bm PySem.F.plainAttrs_str PySem.F.slot_str_startswith PySem.F.type_str_startswith ok_sw ho ha hbase hfew hline hs hplain).mono fun σ H Q g => ?_
  refine oneSevl (P := fun v H1 => tyV X.K "str" v H1) g (fun N ρ x v H1 r h => tyV_str r h) fun Nw W O ρ x v l vs fr H1 vp rx g => ?_
  obtain ⟨r, er, q⟩ := Go.ofOpt vp.env0 g
  exact ⟨_, _, _, r, rx, vp.reads, er, q⟩
end
/-! ### slices of texts -/
def slxT : T → Option Int → Option Int → Option TK
  | .str s, lo, hi => cond (sized s) (some ⟨.str (cut s lo hi), .s⟩) none
  | _, _, _ => none
def slxK (a : EV) (lo hi : Env → R (Option Int)) : EV := fun ρ => (a ρ).bind fun x ρ => (lo ρ).bind fun l ρ => (hi ρ).bind fun h ρ => ofOpt (slxT (val ρ x) l h) ρ
def rSlG (K : PySem.W.Frag) (f : T → Option Int → Option Int → Option TK) : V → Option Int → Option Int → Hp → VK → Prop := fun x lo hi H Q => ∃ N t r, RRep K H N t x ∧ f t lo hi = some r ∧ Res K H N r Q
theorem cutS_cut (s : List Nat) (lo hi : Option Int) : cutS (toStr s) lo hi = toStr (cut s lo hi) := by
  unfold cutS toStr cut
  rw [clip_ix, clip_ix]
  rfl
theorem ok_slx {X : Cx} : SlR X (rSlG X.K slxT) := by
  intro pins s σ H x v vl vu lo hi sl Q I rx hs pl pu h
  obtain ⟨N, t, r, hx, e, q⟩ := h
  unfold slxT at e
  split at e
  · obtain ⟨c, e⟩ := cond_some e
    cases e
    refine sl_str pins s σ H x v vl vu lo hi sl Q I rx hs pl pu ⟨_, hx.str, ?_, ?_⟩
    · exact Nat.le_of_lt (sized_le c)
    · rw [cutS_cut]
      exact q.sh (.str _)
  · cases e
section
variable {X : Cx} {TB : List (Addr × Str)} {C : CT} {Wx : WX} {a : Expr} {ra : EV} {pos : Pos}
theorem q_slx {lo hi : Option Expr} {rlo rhi : Env → R (Option Int)} {p2 : Pos} (ha : PE X a (tE X.K TB C Wx ra)) (hl : PO X lo (tO X.K TB C Wx rlo)) (hh : PO X hi (tO X.K TB C Wx rhi)) :
    PE X (.Subscript a (.Slice lo hi none p2) pos) (tE X.K TB C Wx (slxK ra rlo rhi)) := by
  refine (pe_slice ok_slx ha hl hh).mono fun σ H Q g => ?_
  obtain ⟨W, O, ρ, en, g⟩ := g
  refine ⟨W, O, ρ, en, Go.first (k := kdV X.K TB σ) g fun x ρ1 v H1 O1 e p vp g1 => ?_⟩
  have vp : VPost X.K TB (nw H O ρ) H1 W O1 σ ρ1 x v := vp
  refine ⟨_, O1, ρ1, vp.envH, Go.first (k := kdP X.K TB σ (Option Int)) (g1.shift Post.refl heldW_le) fun l ρ2 l' H2 O2 e2 p2 vp2 _ => ?_⟩
  obtain ⟨el, en2⟩ := vp2
  subst el
  rw [e2] at g1
  have g2 : Go TB C Wx (kdV X.K TB σ) H1 W O1 ρ1 ((rhi ρ2).bind fun h ρ => ofOpt (slxT (val ρ x) l' h) ρ) Q := g1
  refine ⟨_, O2, ρ2, en2, Go.first (k := kdP X.K TB σ (Option Int)) ((g2.shift p2 fun _ q => q).shift Post.refl heldW_le) fun h ρ3 h' H3 O3 e3 p3 vp3 _ => ?_⟩
  obtain ⟨eh, en3⟩ := vp3
  subst eh
  rw [e3] at g2
  have g3 : Go TB C Wx (kdV X.K TB σ) H1 W O1 ρ1 (ofOpt (slxT (val ρ3 x) l' h') ρ3) Q := g2
  have g4 := g3.shift (p2.trans p3) (W1 := W) fun _ q => q
  have en3' := en3.drop (heldW_le (W := W) (x := x) (v := v))
  obtain ⟨r, er, q⟩ := Go.ofOpt en3' g4
  exact ⟨_, _, r, vp.late (p2.trans p3) en3, er, q⟩
end
/-! ### D.get(text, int) -/
def lookN (x : List Nat) : List (List Nat × Int) → Option Int
  | [] => none
  | (a, i) :: r => cond (strEq a x) (some i) (lookN x r)
def orI (j : Int) : Option Int → Int
  | some i => i
  | none => j
def lgetT (l : List (List Nat × Int)) : List T → Option TK
  | [.str s, .int j] => some ⟨.int (orI j (lookN s l)), .s⟩
  | _ => none
def lgetK (l : List (List Nat × Int)) (es : EVs) : EV := fun ρ => (es ρ).bind fun xs ρ => ofOpt (lgetT l (trees ρ xs)) ρ
theorem lookN_val (s : List Nat) : ∀ l : List (List Nat × Int), valV (litKV (l.map fun p => (toStr p.1, p.2))) (.inr (toStr s)) = (lookN s l).map V.int
  | [] => rfl
  | (a, i) :: r => by
    have ih := lookN_val s r
    show ((((.inr (toStr a) : Key), V.int i) :: litKV (r.map fun p => (toStr p.1, p.2))).find? fun q => decide (q.1 = .inr (toStr s))).map (·.2) = (cond (strEq a s) (some i) (lookN s r)).map V.int
    rw [List.find?_cons, strEq_eq]
    by_cases c : toStr a = toStr s
    · rw [beq_iff_eq.mpr c, decide_eq_true (show (Sum.inr (toStr a) : Key) = .inr (toStr s) by rw [c])]
      rfl
    · rw [beq_eq_false_iff_ne.mpr c, decide_eq_false (fun q : (Sum.inr (toStr a) : Key) = .inr (toStr s) => c (Sum.inr.inj q))]
      exact ih
section
variable {X : Cx} {TB : List (Addr × Str)} {C : CT} {Wx : WX} {x : Str} {d : Addr} {e : Expr} {es : List Expr} {rl : EVs} {p apos cpos : Pos}
theorem q_lget (l : List (List Nat × Int)) (D : LitD X.prog X.w X.K d (l.map fun p => (toStr p.1, p.2))) (hm : X.mg x = some (.ref d)) (ha : PA X (e :: es) (tA X.K TB C Wx rl)) (hg : Gl X x := by rfl) (hdb : (x == ("__debug__" : Str)) = false := by decide)
    (hbase : attributeBase (.Name x p) "get" X.env (eval (.Name x p) X.env) = eval (.Name x p) X.env := by rfl)
    (hfew : ((backTo cpos (starEach (e :: es) X.env)).all (fun x => !x.1) && (backToKw cpos (keywordEach [] X.env)).all (fun x => x.1.isSome)
      && decide ((e :: es).length + ([] : List Keyword).length + (if ([] : List Keyword).isEmpty then 0 else 1) < 30)) = true := by rfl)
    (hline : (apos.endLine == cpos.line) = true := by rfl) (hs : starEach (e :: es) X.env = (false, eval e X.env) :: starEach es X.env := by rfl) (hplain : (backTo cpos (starEach es X.env)).any (·.1) = false := by rfl) :
    PE X (.Call (.Attribute (.Name x p) "get" apos) (e :: es) [] cpos) (tE X.K TB C Wx (lgetK l rl)) := by
  refine ⟨fun pins s σ H Q I h => ?_⟩
  obtain ⟨vs, ep, kv, at_⟩ := D.at_
  have h1 : tA X.K TB C Wx rl σ H (fun us H2 => ∃ (z : List Nat) (j : Int), us = [.str (toStr z), .int j] ∧ Q (.int (orI j (lookN z l))) H2) := by
    refine sevl h fun Nw W O ρ xs us fr H1 vp g => ?_
    obtain ⟨r, er, q⟩ := Go.ofOpt vp.env0 g
    have rs := vp.reads
    unfold lgetT at er
    split at er
    · rename_i z j heq
      cases er
      rw [heq] at rs
      cases rs with
      | cons r1 rs =>
        cases rs with
        | cons r2 rs =>
          cases rs
          exact ⟨z, j, by rw [r1.str, r2.int], q.sh (.int _)⟩
    · cases er
  have hA := ha.run cpos pins s σ H _ I h1
  refine wpAny_Call_method_late hbase hfew hline rfl ?_
  refine ld_glob I hg hm ?_ hdb
  have DA : s.heap.DictAt (mixKind X.prog X.w) d vs ep := at_ _ I.kIn
  refine ⟨"dict", "dict.get", PySem.F.plainAttrs_dict, PySem.F.slot_dict_get, PySem.F.type_dict_get, DA.dictOf.typeIs, DA.dictOf.mapOf.noDict, ?_⟩
  rw [hs] at hA ⊢
  refine Calls.callWith_builtin (by show (false || (backTo cpos (starEach es X.env)).any (·.1)) = false; rw [hplain] <;> rfl) (Calls.evalArgs_plain ?_)
  refine thn hA ?_
  rintro us s2 ⟨vs2, H2, I2, r2, z, j, rfl, q2⟩
  cases r2 with
  | cons a1 r3 =>
    cases r3 with
    | cons a2 r4 =>
      cases r4
      have DA2 : s2.heap.DictAt (mixKind X.prog X.w) d vs ep := at_ _ I2.kIn
      have hz := (kv.val (.inr (toStr z))).getD a2
      rw [lookN_val] at hz
      have ez : ((lookN z l).map V.int).getD (V.int j) = V.int (orI j (lookN z l)) := by cases lookN z l <;> rfl
      rw [ez] at hz
      exact call_meetsIn PySem.F.slot_dict_get DA2.dictOf.typeIs PySem.F.entry_dict_get (PySem.F.args_dict_get_3 _ _ _) (meets_dict_get_default (mixKind X.prog X.w) d (kV_is (k := .inr (toStr z)) a1) D.low _) ⟨_, DA2.dictOf.mapOf, _, H2, I2.tok _, hz, q2⟩
end
end PB
end

section
set_option Elab.async false
set_option linter.all false
set_option maxRecDepth 100000
set_option maxHeartbeats 400000
/-! Sound55: a module's dict by its name. -/
namespace PB
open PySem PySem.Spec PyProof.Rows L2
def nmI (l : List (List Nat × Int)) : List (Str × Int) := l.map fun p => (toStr p.1, p.2)
def MDict (P : Program) (w : World) (K : PySem.W.Frag) (mg : Str → Option Value) (x : Str) (l : List (List Nat × Int)) : Prop := ∃ d, mg x = some (.ref d) ∧ LitD P w K d (nmI l)
theorem mdict_of {P : Program} {w : World} {K : PySem.W.Frag} {mg : Str → Option Value} {x : Str} {l : List (List Nat × Int)} {fa : List He.Fa} {fn : List He.DefD} {ts : List He.Tab} {tf : List He.Defn} {ex : PySem.W.Frag → Bool} {h : Heap} (c : He.SaysX fa fn ts tf ex w h K) (i : Nat) {t : He.Tab}
    (ht : ts[i]? = some t) (hk : t.2 = (nmI l).map (·.1)) (hm : mg x = some (.ref (t.1 K))) (hi : dictB K (t.1 K) ((nmI l).map (·.2)) = true) (nd : ((nmI l).map (·.1)).Nodup) : MDict P w K mg x l := by
  have e : ts.map (fun t => He.dicW K (t.1 K)) = ts.map fun t => some (He.keysIn w.params t.2) := congrArg (fun z : He.AlT => z.2) c.t
  have e2 : (ts.map fun t => He.dicW K (t.1 K))[i]? = (ts.map fun t => some (He.keysIn w.params t.2))[i]? := by rw [e]
  rw [List.getElem?_map, List.getElem?_map, ht] at e2
  have e3 : He.dicW K (t.1 K) = some (He.keysIn w.params t.2) := Option.some.inj e2
  rw [hk] at e3
  exact ⟨t.1 K, hm, litD_of e3 hi nd⟩
section
variable {X : Cx} {TB : List (Addr × Str)} {C : CT} {Wx : WX} {x : Str} {l : List (List Nat × Int)} {elts : List Expr} {kk : Nat} {tpos p apos cpos : Pos} {e : Expr} {es : List Expr} {rl : EVs}
theorem q_lit2 (D : MDict X.prog X.w X.K X.mg x l) (hg : Gl X x := by rfl) (hdb : (x == ("__debug__" : Str)) = false := by decide)
    (hbase : attributeBase (.Name x p) "items" X.env (eval (.Name x p) X.env) = eval (.Name x p) X.env := by rfl) (hline : (apos.endLine == cpos.line) = true := by rfl) :
    PI X (.Tuple elts kk tpos) (.Call (.Attribute (.Name x p) "items" apos) [] [] cpos) (tI X.K TB C Wx [] (itsK (litT l))) := by
  obtain ⟨d, hm, D⟩ := D
  exact q_litems l D hm hg hdb hbase hline
theorem q_lgt2 (D : MDict X.prog X.w X.K X.mg x l) (ha : PA X (e :: es) (tA X.K TB C Wx rl)) (hg : Gl X x := by rfl) (hdb : (x == ("__debug__" : Str)) = false := by decide)
    (hbase : attributeBase (.Name x p) "get" X.env (eval (.Name x p) X.env) = eval (.Name x p) X.env := by rfl)
    (hfew : ((backTo cpos (starEach (e :: es) X.env)).all (fun x => !x.1) && (backToKw cpos (keywordEach [] X.env)).all (fun x => x.1.isSome)
      && decide ((e :: es).length + ([] : List Keyword).length + (if ([] : List Keyword).isEmpty then 0 else 1) < 30)) = true := by rfl)
    (hline : (apos.endLine == cpos.line) = true := by rfl) (hs : starEach (e :: es) X.env = (false, eval e X.env) :: starEach es X.env := by rfl) (hplain : (backTo cpos (starEach es X.env)).any (·.1) = false := by rfl) :
    PE X (.Call (.Attribute (.Name x p) "get" apos) (e :: es) [] cpos) (tE X.K TB C Wx (lgetK l rl)) := by
  obtain ⟨d, hm, D⟩ := D
  exact q_lget l D hm ha hg hdb hbase hfew hline hs hplain
end
end PB
end

section
set_option Elab.async false
set_option linter.all false
set_option maxRecDepth 100000
set_option maxHeartbeats 4000000
/-! Sound56: a comprehension over the keys of a dict of its own whose keys are tuples. -/
namespace PB
open PySem PySem.Spec PyProof.Rows L2
section
variable {K : PySem.W.Frag} {TB : List (Addr × Str)} {C : CT} {Wx : WX}
variable {H H' H1 : Hp} {W W1 : Addr → Prop} {O O' O1 : OA} {ρ ρ' ρ1 : Env} {σ : L2.St} {d : Addr} {ks : List (List Key × V)} {kvs : List T} {od : Obj} {i : Nat} {b : Bool}
theorem tks_at {kvs : List T} {ks : List (List Key × V)} (h : TKs kvs ks) {j : Nat} {t : T} (e : kvs[j]? = some t) : ∃ l : List Int, t = .tup (l.map T.int) ∧ ks[j]? = some (l.map Sum.inl, V.bl true) := by
  obtain ⟨ls, rfl, rfl⟩ := h
  rw [List.getElem?_map] at e
  cases z : ls[j]? with
  | none => rw [z] at e; cases e
  | some l =>
    rw [z] at e
    cases e
    exact ⟨l, rfl, by rw [List.getElem?_map, z]; rfl⟩
theorem tks_len {kvs : List T} {ks : List (List Key × V)} (h : TKs kvs ks) : kvs.length = ks.length := by
  obtain ⟨ls, rfl, rfl⟩ := h
  rw [List.length_map, List.length_map]
theorem ItOk.keysT {B N : Addr → Prop} (h : H d = some (.frz od (.dT ks))) (na : ¬ B d) (r : TKs kvs ks) : ItOk K H B N kvs (Itkt d od ks) := by
  intro H' N' k kt hn
  have h' : H' d = some (.frz od (.dT ks)) := k _ _ h na (fun _ z => by cases z)
  refine ⟨fun j hj => ⟨h', by rw [tks_len r] at hj; exact hj⟩, fun j t e => ?_⟩
  obtain ⟨l, e1, e2⟩ := tks_at r e
  subst e1
  refine ⟨⟨h', (List.getElem?_eq_some_iff.mp e2).1⟩, ?_⟩
  rintro x H'' ⟨f0, c', v', q, f1, f2, f3⟩
  subst f0 f2
  rw [e2] at f1
  cases f1
  refine ⟨Grow.refl, .tup (SqT.of f3) ?_⟩
  rw [List.map_map]
  exact .ofInts _
theorem frz_tupT {o : HO} (e : o = .frz od (.dT ks)) (h : ∃ xs, o = .tup xs ∨ ∃ ob, o = .frz ob (.tup xs)) : False := by
  subst e
  obtain ⟨xs, h | ⟨ob, h⟩⟩ := h <;> cases h
mutual
/-- nothing stands for a frozen dict -/
theorem Rep.unfzT {N N' : Addr → Prop} (hd : H d = some (.frz od (.dT ks))) (hn : ∀ b, N' b → N b ∨ b = d) : ∀ {t : T} {v : V}, Rep K H N t v → Rep K (upd H d (.dT ks)) N' t v
  | _, _, .non => .non
  | _, _, .bl b => .bl b
  | _, _, .int i => .int i
  | _, _, .str s => .str s
  | _, _, .tup h r => .tup (sqT_keep (fun b o e z => by
      rw [upd_ne fun c => ?_]
      · exact e
      · subst c
        rw [hd] at e
        exact frz_tupT (Option.some.inj e).symm z) h) (Reps.unfzT hd hn r)
  | _, _, .lst (a := a) h n r => by
    have na : a ≠ d := fun c => by subst c; rw [hd] at h; cases h
    exact .lst (by rw [upd_ne na]; exact h) (fun q => (hn _ q).elim n na) (Reps.unfzT hd hn r)
  | _, _, .scrH (a := a) h n => by
    have na : a ≠ d := fun c => by subst c; rw [hd] at h; cases h
    exact .scrH (by rw [upd_ne na]; exact h) (fun q => (hn _ q).elim n na)
  | _, _, .scrK h => .scrK h
  | _, _, .tpd (a := a) h e r => by
    have na : a ≠ d := fun c => by subst c; rw [hd] at h; cases h
    exact .tpd (by rw [upd_ne na]; exact h) e (Reps.unfzT hd hn r)
  | _, _, .dct (a := a) h n r => by
    have na : a ≠ d := fun c => by subst c; rw [hd] at h; cases h
    exact .dct (by rw [upd_ne na]; exact h) (fun q => (hn _ q).elim n na) (RepKV.unfzT hd hn r)
  | _, _, .dtt (a := a) h n r => by
    have na : a ≠ d := fun c => by subst c; rw [hd] at h; cases h
    exact .dtt (by rw [upd_ne na]; exact h) (fun q => (hn _ q).elim n na) r
theorem Reps.unfzT {N N' : Addr → Prop} (hd : H d = some (.frz od (.dT ks))) (hn : ∀ b, N' b → N b ∨ b = d) : ∀ {t : List T} {v : List V}, Reps K H N t v → Reps K (upd H d (.dT ks)) N' t v
  | _, _, .nil => .nil
  | _, _, .cons h r => .cons (Rep.unfzT hd hn h) (Reps.unfzT hd hn r)
theorem RepKV.unfzT {N N' : Addr → Prop} (hd : H d = some (.frz od (.dT ks))) (hn : ∀ b, N' b → N b ∨ b = d) : ∀ {t : List (T × T)} {v : List (Key × V)}, RepKV K H N t v → RepKV K (upd H d (.dT ks)) N' t v
  | _, _, .nil => .nil
  | _, _, .cons c h r => .cons c (Rep.unfzT hd hn h) (RepKV.unfzT hd hn r)
end
/-- the dict d is out of sight -/
theorem EnvRep.outT (en : EnvRep K TB H W O σ ρ) (es : slotAt ρ i = .ow b (.dtt kvs)) (ea : O i = some d) (hd : H d = some (.dT ks)) : EnvRep K TB (upd H d (.frz od (.dT ks))) W (setO O i none) σ (put ρ i .no) := by
  have hi : i < ρ.length := slot_lt (by rw [es]; nofun)
  have sub : ∀ c, NG W (setO O i none) c → NG W O c := fun c q => by
    rcases q with q | ⟨j, q⟩
    · exact .inl q
    · by_cases z : j = i
      · subst z; rw [setO_same] at q; cases q
      · rw [setO_ne z] at q; exact .inr ⟨j, q⟩
  have nd : NG W O d := .inr ⟨i, ea⟩
  have k : ∀ c o, H c = some o → ¬ NG W O c → nt o → upd H d (.frz od (.dT ks)) c = some o := fun c o e n _ => by rw [upd_ne (show c ≠ d from fun z => n (by rw [z]; exact nd))]; exact e
  have kt : ∀ c o, H c = some o → (∃ xs, o = .tup xs ∨ ∃ ob, o = .frz ob (.tup xs)) → upd H d (.frz od (.dT ks)) c = some o := fun c o e h => by
    rw [upd_ne fun z => ?_]
    · exact e
    · subst z
      rw [hd] at e
      cases e
      obtain ⟨xs, h | ⟨ob, h⟩⟩ := h <;> cases h
  refine en.upd1 (W' := W) rfl (fun j c => ?_) rfl hi (fun _ z => by cases z) (fun j a c q => en.out j a q) (fun a w => ?_) fun p hp => tabs_upd hd (fun _ z => by cases z) (fun _ z => by unfold LamX.CodeO at z; cases z) _ _ (en.tab p hp)
  · have q := en.sl j
    have kr : ∀ {t v}, Rep K H (NG W O) t v → Rep K (upd H d (.frz od (.dT ks))) (NG W (setO O i none)) t v := fun r => r.keep k kt fun c q => .inl (sub c q)
    have ko : ∀ {t a}, O j = some a → OwnRep K H (NG W O) t a → OwnRep K (upd H d (.frz od (.dT ks))) (NG W (setO O i none)) t a := fun {t a} e r => by
      have na : a ≠ d := fun z => c (en.inj j i d (z ▸ e) ea)
      rcases r with ⟨ts, ws, e1, h, r⟩ | ⟨ts, ws, e1, h, r⟩ | ⟨ts, ws, e1, h, r⟩
      · exact .inl ⟨ts, ws, e1, by rw [upd_ne na]; exact h, r.keep k kt fun c q => .inl (sub c q)⟩
      · exact .inr (.inl ⟨ts, ws, e1, by rw [upd_ne na]; exact h, r.keep k kt fun c q => .inl (sub c q)⟩)
      · exact .inr (.inr ⟨ts, ws, e1, by rw [upd_ne na]; exact h, r⟩)
    revert q
    cases slotAt ρ j with
    | no => exact id
    | sh t => rintro ⟨q0, v, ev, r⟩; exact ⟨q0, v, ev, kr r⟩
    | fz t => rintro ⟨q0, v, ev, r⟩; exact ⟨q0, v, ev, kr r⟩
    | ow bb t => rintro ⟨a, q0, ev, r⟩; exact ⟨a, q0, ev, ko q0 r⟩
    | le t => rintro ⟨a, q0, ev, r⟩; exact ⟨a, q0, ev, ko q0 r⟩
  · obtain ⟨o, e, z⟩ := en.wt a w
    have na : a ≠ d := fun c => en.out i a (by rw [c]; exact ea) w
    exact ⟨o, by rw [upd_ne na]; exact e, z⟩
/-- .. and in sight again -/
theorem lock_goT {r : R TK} {Q : VK} (en : EnvRep K TB H W O σ ρ) (es : slotAt ρ i = .ow b (.dtt kvs)) (ea : O i = some d) (ev : σ[i]? = some (some (.ref d))) (hd : H d = some (.dT ks)) (rk : TKs kvs ks) (g : Go TB C Wx (kdV K TB σ) H W O ρ (relockT i b kvs r) Q) :
    Go TB C wF (kdV K TB σ) (upd H d (.frz od (.dT ks))) W (setO O i none) (put ρ i .no) r fun v H' => H' d = some (.frz od (.dT ks)) ∧ Q v (upd H' d (.dT ks)) := by
  have hi : i < ρ.length := slot_lt (by rw [es]; nofun)
  cases r with
  | bad => exact g
  | exc c x => exact g.elim
  | ok x ρ' =>
    obtain ⟨t, k⟩ := x
    cases k with
    | s => exact g.elim
    | p j => exact g.elim
    | f =>
      intro v H' O' p vp
      have g : Go TB C Wx (kdV K TB σ) H W O ρ (.ok ⟨t, .f⟩ (put ρ' i (.ow b (.dtt kvs)))) Q := g
      obtain ⟨a, rfl, hnw, ng, own, en'⟩ := vp
      have nO : ¬ Ow (setO O i none) (put ρ i .no) d := fun ⟨j, bb, u, e1, e2⟩ => by
        by_cases c : j = i
        · subst c; rw [setO_same] at e1; cases e1
        · rw [setO_ne c] at e1; exact c (en.inj j i d e1 ea)
      have owE : ∀ c, Ow (setO O i none) (put ρ i .no) c → Ow O ρ c := fun c ⟨j, bb, u, e1, e2⟩ => by
        by_cases z : j = i
        · subst z; rw [setO_same] at e1; cases e1
        · rw [setO_ne z] at e1; rw [slot_put_ne ρ _ (Ne.symm z)] at e2; exact ⟨j, bb, u, e1, e2⟩
      have hd' : H' d = some (.frz od (.dT ks)) := p.keep d _ upd_same nO fun _ z => by cases z
      have na : a ≠ d := fun z => by
        subst z
        rcases hnw with h | h
        · exact h _ upd_same fun _ z => by cases z
        · exact nO h
      have hi' : i < ρ'.length := by have := en'.len; have := en.len; omega
      have oOf : ∀ j c, j ≠ i → O' j = some c → O j = some c := fun j c z e => by
        have := p.own j c e
        rw [setO_ne z] at this
        exact this
      have oi : O' i = none := by
        cases e : O' i with
        | none => rfl
        | some c =>
          have := p.own i c e
          rw [setO_same] at this; cases this
      have dO : ∀ j, O' j ≠ some d := fun j e => by
        by_cases z : j = i
        · subst z; rw [oi] at e; cases e
        · exact z (en.inj j i d (oOf j d z e) ea)
      -- the last heap
      have kp : ∀ c o, H c = some o → ¬ Ow O ρ c → nt o → upd H' d (.dT ks) c = some o := fun c o e n z => by
        have nc : c ≠ d := fun q => n ⟨i, b, _, q ▸ ea, es⟩
        rw [upd_ne nc]
        exact p.keep c o (by rw [upd_ne nc]; exact e) (fun q => n (owE c q)) z
      have post : Post H O ρ (upd H' d (.dT ks)) (setO O' i (some d)) (put ρ' i (.ow b (.dtt kvs))) := by
        refine ⟨fun j c e => ?_, kp, fun c o e z => ?_, fun j e => ?_, fun j bb u e => ?_, fun j e => ?_, fun j u e => ?_⟩
        · by_cases z : j = i
          · subst z; rw [setO_same] at e; cases e; exact ea
          · rw [setO_ne z] at e; exact oOf j c z e
        · by_cases c1 : c = d
          · subst c1; exact ⟨_, upd_same, fun _ z => by cases z⟩
          · rw [upd_ne c1]
            exact p.per c o (by rw [upd_ne c1]; exact e) z
        · by_cases z : j = i
          · subst z; rw [slot_put ρ' _ hi']; nofun
          · rw [slot_put_ne ρ' _ (Ne.symm z)]
            exact p.ne j (by rw [slot_put_ne ρ _ (Ne.symm z)]; exact e)
        · by_cases z : j = i
          · subst z; rw [slot_put ρ' _ hi'] at e; cases e; exact ⟨_, es⟩
          · rw [slot_put_ne ρ' _ (Ne.symm z)] at e
            obtain ⟨t0, e1⟩ := p.ows j bb u e
            rw [slot_put_ne ρ _ (Ne.symm z)] at e1
            exact ⟨t0, e1⟩
        · by_cases z : j = i
          · subst z
            rw [slot_put ρ' _ hi']
            rw [es] at e
            cases b
            · cases e
            · rfl
          · rw [slot_put_ne ρ' _ (Ne.symm z)]
            exact p.ms j (by rw [slot_put_ne ρ _ (Ne.symm z)]; exact e)
        · have z : j ≠ i := fun z => by subst z; rw [es] at e; cases e
          obtain ⟨e1, e2⟩ := p.le j u (by rw [slot_put_ne ρ _ (Ne.symm z)]; exact e)
          rw [slot_put_ne ρ' _ (Ne.symm z), setO_ne z]
          rw [setO_ne z] at e2
          exact ⟨e1, e2⟩
      have sub : ∀ c, NG (plus W a) (setO O' i (some d)) c → NG (plus W a) O' c ∨ c = d := fun c q => by
        rcases q with q | ⟨j, q⟩
        · exact .inl (.inl q)
        · by_cases z : j = i
          · subst z; rw [setO_same] at q; cases q; exact .inr rfl
          · rw [setO_ne z] at q; exact .inl (.inr ⟨j, q⟩)
      have nwa : nn H a ∨ Ow O ρ a := by
        rcases hnw with h | h
        · refine .inl fun o e z => h o ?_ z
          rw [upd_ne na]; exact e
        · exact .inr (owE a h)
      refine ⟨hd', g (.ref a) (upd H' d (.dT ks)) (setO O' i (some d)) post ⟨a, rfl, nwa, fun q => ?_, ?_, ?_⟩⟩
      · rcases q with q | ⟨j, q⟩
        · exact ng (.inl q)
        · by_cases z : j = i
          · subst z; rw [setO_same] at q; cases q; exact na rfl
          · rw [setO_ne z] at q; exact ng (.inr ⟨j, q⟩)
      · rcases own with ⟨ts, ws, e1, h, r⟩ | ⟨ts, ws, e1, h, r⟩ | ⟨ts, ws, e1, h, r⟩
        · exact .inl ⟨ts, ws, e1, by rw [upd_ne na]; exact h, r.unfzT hd' sub⟩
        · exact .inr (.inl ⟨ts, ws, e1, by rw [upd_ne na]; exact h, r.unfzT hd' sub⟩)
        · exact .inr (.inr ⟨ts, ws, e1, by rw [upd_ne na]; exact h, r⟩)
      · refine en'.upd1 (W' := plus W a) rfl (fun j c => ?_) ?_ hi' (fun c e => ?_) (fun j c z q => ?_) (fun c w => ?_) fun p hp => tabs_upd hd' (fun _ z => by cases z) (fun _ z => by unfold LamX.CodeO at z; cases z) _ _ (en'.tab p hp)
        · have q := en'.sl j
          have kr : ∀ {t v}, Rep K H' (NG (plus W a) O') t v → Rep K (upd H' d (.dT ks)) (NG (plus W a) (setO O' i (some d))) t v := fun r => r.unfzT hd' sub
          have ko : ∀ {t a0}, O' j = some a0 → OwnRep K H' (NG (plus W a) O') t a0 → OwnRep K (upd H' d (.dT ks)) (NG (plus W a) (setO O' i (some d))) t a0 := fun {t a0} e r => by
            have n0 : a0 ≠ d := fun z => dO j (z ▸ e)
            rcases r with ⟨ts, ws, e1, h, r⟩ | ⟨ts, ws, e1, h, r⟩ | ⟨ts, ws, e1, h, r⟩
            · exact .inl ⟨ts, ws, e1, by rw [upd_ne n0]; exact h, r.unfzT hd' sub⟩
            · exact .inr (.inl ⟨ts, ws, e1, by rw [upd_ne n0]; exact h, r.unfzT hd' sub⟩)
            · exact .inr (.inr ⟨ts, ws, e1, by rw [upd_ne n0]; exact h, r⟩)
          revert q
          cases slotAt ρ' j with
          | no => exact id
          | sh t => rintro ⟨q0, v, ev, r⟩; exact ⟨q0, v, ev, kr r⟩
          | fz t => rintro ⟨q0, v, ev, r⟩; exact ⟨q0, v, ev, kr r⟩
          | ow bb t => rintro ⟨a, q0, ev, r⟩; exact ⟨a, q0, ev, ko q0 r⟩
          | le t => rintro ⟨a, q0, ev, r⟩; exact ⟨a, q0, ev, ko q0 r⟩
        · exact ⟨d, rfl, ev, .inr (.inr ⟨kvs, ks, rfl, upd_same, rk⟩)⟩
        · cases e
          refine ⟨?_, fun j z => dO j⟩
          rintro (w | w)
          · exact en.out i d ea w
          · exact na w.symm
        · rintro (w | w)
          · exact en.out j c (oOf j c z q) w
          · subst w; exact ng (.inr ⟨j, q⟩)
        · have nc : c ≠ d := fun z => by
            subst z
            rcases w with w | w
            · exact en.out i c ea w
            · exact na w.symm
          obtain ⟨o, e, z⟩ := en'.wt c w
          exact ⟨o, by rw [upd_ne nc]; exact e, z⟩
/-- [elt for .. in d if ..], d of slot i -/
theorem sem_lockcT {own : List Nat} {rt : EA} {rc : Env → R Bool} {re : EV} {Q : VK} (hio : i ∉ own) (g : tE K TB C Wx (lockTK i fun kvs => compK own (genK own [] rt (itsK kvs) rc (eltK re))) σ H Q) :
    tLockE (tLc (iKeys (tVar i)) (tC K TB own rt) (tT K TB C wF rc) (tE K TB C wF re) own) σ H Q := by
  obtain ⟨W, O, ρ, en, g⟩ := g
  have g : Go TB C Wx (kdV K TB σ) H W O ρ (lockT1 i (fun kvs => compK own (genK own [] rt (itsK kvs) rc (eltK re))) ρ (slotAt ρ i)) Q := g
  cases es : slotAt ρ i with
  | ow b t =>
    rw [es] at g
    cases t with
    | dtt kvs =>
      obtain ⟨d, ea, ev, own0⟩ := en.ow es
      obtain ⟨ks, hd, rk⟩ := own0.dttE
      have g : Go TB C Wx (kdV K TB σ) H W O ρ (relockT i b kvs (compK own (genK own [] rt (itsK kvs) rc (eltK re)) (put ρ i .no))) Q := g
      refine ⟨d, _, hd, True.intro, fun od => ?_⟩
      have g1 := lock_goT (od := od) en es ea ev hd rk g
      have en1 := en.outT (od := od) es ea hd
      refine ⟨.ref d, ev, d, od, rfl, .inr ⟨ks, upd_same, ?_⟩⟩
      refine sem_comp1J (Hx := H) en1 g1 (rfl : itsK kvs (PB.wipe own (put ρ i .no)) = .ok kvs (PB.wipe own (put ρ i .no))) Post.refl ⟨_, fun _ q => q, en1.wipeW, ?_, fun _ q => .inl q⟩
      refine .keysT upd_same (fun q => ?_) rk
      rcases q with q | q
      · obtain ⟨j, bb, u, e1, _⟩ := q
        have e1 := (wipeO_some e1).2
        by_cases z : j = i
        · subst z; rw [setO_same] at e1; cases e1
        · rw [setO_ne z] at e1; exact z (en.inj j i d e1 ea)
      · rcases q with q | ⟨j, _, q⟩
        · exact en.out i d ea q
        · by_cases z : j = i
          · subst z; rw [setO_same] at q; cases q
          · rw [setO_ne z] at q; exact z (en.inj j i d q ea)
    | _ => exact g.elim
  | _ => rw [es] at g; exact g.elim
end
section
variable {X : Cx} {TB : List (Addr × Str)} {C : CT} {Wx : WX} {k i : Nat} {elt : Expr} {ifs : List Expr} {own : List Nat} {rt : EA} {rc : Env → R Bool} {re : EV} {pos : Pos} {scope : Scope}
theorem q_lckT {x : Str} {tg : Expr} {p : Pos} (ow : List (Str × Nat)) (c : Cxt X Wx k)
    (hg : Bk X scope fun Y => PG Y tg (tC Y.K TB own rt)) (ht : Bk X scope fun Y => PTs Y ifs (tT X.K TB C wF rc)) (he : Bk X scope fun Y => PE Y elt (tE Y.K TB C wF re)) (hio : i ∉ own := by decide) (ok : blkC X.N X.env.scope scope ow = true := by kernel_rfl) (hO : ow.map (·.2) = own := by rfl)
    (hN : X.N[i]? = some x := by rfl) (hv : Vis X.env.scope x := by first | exact .inl rfl | exact .inr (.inl rfl) | exact .inr (.inr rfl)) (hd : (x == ("__debug__" : Str)) = false := by decide) (hcd : (x == ("__classdict__" : Str)) = false := by decide)
    (hs : ∀ z, foldedSetIterable (.Name x p) X.env z = pure z := by intro _; rfl) :
    PE X (.ListComp elt [⟨tg, .Name x p, ifs, 0⟩] scope pos) (tE X.K TB C Wx (lockTK i fun kvs => compK own (genK own [] rt (itsK kvs) rc (eltK re)))) := by
  subst hO
  exact (pe_lock (pe_lc c.cm c.nd (pi_keys (pe_var hN hv hd hcd)) (blkOk_by ok) hg ht he hs)).mono fun σ H Q g => sem_lockcT hio g
end
end PB
end

section
set_option Elab.async false
set_option linter.all false
set_option maxRecDepth 100000
set_option maxHeartbeats 400000
/-! Sound57: {tuple(range(n)): True}. -/
namespace PB
open PySem PySem.Spec PyProof.Rows L2
section
variable {X : Cx} {pos : Pos} {ke ve : Expr} {tk tv : TE}
def tDisp1T (tk tv : TE) : TE := fun σ H Q => ∀ p, H p = none → tk σ (upd H p (.dT [])) fun x H1 => tv σ H1 fun y H2 => ∃ b ks, H2 p = some (.dT []) ∧ x = .ref b ∧ H2 b = some (.tup (ks.map kV)) ∧ Q (.ref p) (upd H2 p (.dT [(ks, y)]))
theorem pe_disp1T (hu : X.A.units + 1 < cLine) (hk : PE X ke tk) (hv : PE X ve tv) : PE X (.Dict [some ke] [ve] pos) (tDisp1T tk tv) := by
  refine ⟨fun pins s σ H Q I q => ?_⟩
  have hn := I.hok.fresh (Nat.le_refl s.heap.objs.size)
  have I1 := I.laid (a := s.heap.objs.size) (o := .dT []) (h' := s.heap.push { cls := .type "dict", data := .dict #[] }) (t' := s.toks) (fun _ _ q => Heap.get?_push_of_some _ q) (Nat.le_refl _) (dt_empty s.heap I.big)
  have hl : (pairTrees [some ke] [ve] X.env pos).length = 1 := pairTrees_length [some ke] [ve] X.env pos rfl rfl
  rw [arm_eval_Dict, zip_pairTrees [some ke] [ve] X.env pos rfl rfl, dictDisplay_pairs (pairTrees [some ke] [ve] X.env pos) (fun z => by rw [z] at hl; cases hl) (by omega)]
  refine wpAny_bind (wpAny_standAt (wpAny_bind ?_))
  unfold subDict
  refine wpAny_bind (wpAny_alloc ?_)
  refine wpAny_bind (wpAny_holding ?_)
  rw [if_pos (by omega)]
  refine wpAny_bind ?_
  refine pairTrees_cons_walk (thn (hk.run pins _ σ _ _ I1 (q _ hn)) fun u s1 ⟨x, H1, I2, rx, q1⟩ => thn (hv.run pins s1 σ H1 _ I2 q1) fun w2 s2 ⟨y, H2, I3, ry, b, ks, e, ex, eb, q2⟩ => pairTrees_nil_walk ?_)
  subst ex
  cases (show u = Value.ref b from rx)
  obtain ⟨z, hd, xs, rel, dd⟩ := dt_of I3.hok e
  cases rel
  refine wpAny_holding ?_
  rw [List.forIn_cons]
  refine wpAny_bind (wpAny_bind ?_)
  refine wpAny_bind (wpAny_dictSet_heap (hsz := Nat.zero_le _) (show X.A.units < cLine by omega) (key_of I3.hok eb) dd fun h' dd' hs => wpAny_pure ?_)
  show wpAny _ _ (forIn ([] : List (Value × Value)) PUnit.unit _) _ _ _
  rw [List.forIn_nil]
  refine wpAny_pure (wpAny_pure (wpAny_pure (wpAny_pure ?_)))
  obtain ⟨o, es, ep, ho, h2, h3, h4, _, h5⟩ := dd'
  have new : ObjOk X.prog X.w (upd H2 s.heap.objs.size (.dT [(ks, y)])) h' s.heap.objs.size (.dT [(ks, y)]) := by
    refine ⟨show 1 ≤ sizeLine by decide, hd, _, (KT.put (H := H2) (kvs := []) (xs := []) .nil ks eb ry).keeps fun c ys ec => ?_, o, es, ep, ho, h2, h3, h4, h5⟩
    rw [upd_ne (ne_of ec e (fun z => nomatch z))]
    exact ec
  exact ⟨.ref s.heap.objs.size, _, d_write I3 (by rw [e]; exact True.intro) hs ⟨o, ho⟩ new, rfl, q2⟩
end
section
variable {K : PySem.W.Frag} {TB : List (Addr × Str)} {H : Hp} {W : Addr → Prop} {O : OA} {ρ : Env} {σ : L2.St} {D : Addr}
theorem EnvRep.updWT {vs ws : List (List Key × V)} (h : EnvRep K TB H W O σ ρ) (w : W D) (hd : H D = some (.dT vs)) : EnvRep K TB (upd H D (.dT ws)) W O σ ρ where
  len := h.len
  sl := fun i => by
    have na : NG W O D := .inl w
    have q := h.sl i
    revert q
    cases es : slotAt ρ i with
    | no => exact id
    | sh t1 => rintro ⟨q0, v, ev, r1⟩; exact ⟨q0, v, ev, r1.upd na .upd hd (.inr (.inr ⟨_, rfl⟩))⟩
    | fz t1 => rintro ⟨q0, v, ev, r1⟩; exact ⟨q0, v, ev, r1.upd na .upd hd (.inr (.inr ⟨_, rfl⟩))⟩
    | ow b1 t1 =>
      rintro ⟨a1, q0, ev, r1⟩
      have nb : a1 ≠ D := fun z => h.out i a1 q0 (by rw [z]; exact w)
      refine ⟨a1, q0, ev, ?_⟩
      rcases r1 with ⟨ts, vs, e, hh, rr⟩ | ⟨ts, vs, e, hh, rr⟩ | ⟨ts, vs, e, hh, rr⟩
      · exact .inl ⟨ts, vs, e, by rw [upd_ne nb]; exact hh, rr.upd na .upd hd (.inr (.inr ⟨_, rfl⟩))⟩
      · exact .inr (.inl ⟨ts, vs, e, by rw [upd_ne nb]; exact hh, rr.upd na .upd hd (.inr (.inr ⟨_, rfl⟩))⟩)
      · exact .inr (.inr ⟨ts, vs, e, by rw [upd_ne nb]; exact hh, rr⟩)
    | le t1 =>
      rintro ⟨a1, q0, ev, r1⟩
      have nb : a1 ≠ D := fun z => h.out i a1 q0 (by rw [z]; exact w)
      refine ⟨a1, q0, ev, ?_⟩
      rcases r1 with ⟨ts, vs, e, hh, rr⟩ | ⟨ts, vs, e, hh, rr⟩ | ⟨ts, vs, e, hh, rr⟩
      · exact .inl ⟨ts, vs, e, by rw [upd_ne nb]; exact hh, rr.upd na .upd hd (.inr (.inr ⟨_, rfl⟩))⟩
      · exact .inr (.inl ⟨ts, vs, e, by rw [upd_ne nb]; exact hh, rr.upd na .upd hd (.inr (.inr ⟨_, rfl⟩))⟩)
      · exact .inr (.inr ⟨ts, vs, e, by rw [upd_ne nb]; exact hh, rr⟩)
  inj := h.inj
  out := h.out
  wt := fun b q => by
    by_cases c : b = D
    · subst c; exact ⟨_, upd_same, fun _ z => by cases z⟩
    · rw [upd_ne c]; exact h.wt b q
  tab := fun p hp => tabs_upd hd (fun _ z => by cases z) (fun _ z => by unfold LamX.CodeO at z; cases z) _ _ (h.tab p hp)
end
def ups (lo : Int) (n : Nat) : List Int := (List.range n).map fun (i : Nat) => lo + (i : Int)
theorem rangeL_map : ∀ (lo : Int) (n : Nat), rangeL lo n = (ups lo n).map T.int
  | lo, 0 => rfl
  | lo, n + 1 => by
    show T.int lo :: rangeL (lo + 1) n = _
    rw [rangeL_map (lo + 1) n]
    unfold ups
    rw [List.range_succ_eq_map, List.map_cons, List.map_map, List.map_cons]
    congr 1
    · simp
    · rw [List.map_map, List.map_map]
      apply List.map_congr_left
      intro i _
      show T.int (lo + 1 + (i : Int)) = T.int (lo + ((i + 1 : Nat) : Int))
      congr 1
      omega
def dttT : T → Option TK
  | .int i => cond (small i) (cond (sized (rangeL 0 i.toNat)) (some ⟨.dtt [.tup (rangeL 0 i.toNat)], .f⟩) none) none
  | _ => none
def dttK (ra : EV) : EV := fun ρ => (ra ρ).bind fun x ρ => ofOpt (dttT (val ρ x)) ρ
section
variable {X : Cx} {TB : List (Addr × Str)} {C : CT} {Wx : WX} {k j : Nat} {a : Expr} {ra : EV} {pos p p2 p3 pos2 pos3 : Pos}
theorem q_dttd (c : Cxt X Wx k) (hm : X.mg "tuple" = none) (hm2 : X.mg "range" = none) (ha : PE X a (tE X.K TB C Wx ra)) (hg : Gl X "tuple" := by rfl) (hg2 : Gl X "range" := by rfl) (na : starEach [a] X.env = (false, eval a X.env) :: starEach [] X.env := by rfl)
    (nb : starEach [.Call (.Name "range" p2) [a] [] pos2] X.env = (false, eval (.Call (.Name "range" p2) [a] [] pos2) X.env) :: starEach [] X.env := by rfl) :
    PE X (.Dict [some (.Call (.Name "tuple" p) [.Call (.Name "range" p2) [a] [] pos2] [] pos)] [.Constant (.bool true) j p3] pos3) (tE X.K TB C Wx (dttK ra)) := by
  refine (pe_disp1T c.u1 (pe_tupRg c.cm hg hm (prg_1 hg2 hm2 ha na) nb) pe_bl).mono fun σ H Q g => ?_
  intro p hp
  obtain ⟨W, O, ρ, en, g⟩ := g
  have gr : Grow H (upd H p (.dT [])) := Grow.upd hp
  have enp : EnvRep X.K TB (upd H p (.dT [])) (plus W p) O σ ρ := en.new gr hp upd_same (fun _ z => by cases z)
  have gp : Go TB C Wx (kdV X.K TB σ) (upd H p (.dT [])) (plus W p) O ρ (dttK ra ρ) Q := Go.shift (r := dttK ra ρ) g (Post.grow gr) fun _ q => .inl q
  unfold dttK at gp g
  refine ⟨plus W p, O, ρ, enp, Go.first (k := kdV X.K TB σ) gp fun x ρ1 v H1 O1 e po vp g1 => ?_⟩
  have vp : VPost X.K TB (nw (upd H p (.dT [])) O ρ) H1 (plus W p) O1 σ ρ1 x v := vp
  have rx := vp.read
  have g2 := g
  rw [e] at g2
  have g2 : Go TB C Wx (kdV X.K TB σ) H W O ρ (ofOpt (dttT (val ρ1 x)) ρ1) Q := g2
  have npO : ¬ Ow O ρ p := fun ⟨i, bb, t, q1, q2⟩ => by
    obtain ⟨o, ho⟩ := en.oth q1
    rw [hp] at ho; cases ho
  have hp1 : H1 p = some (.dT []) := po.keep _ _ upd_same npO (fun _ z => by cases z)
  have pz : Post H O ρ H1 O1 ρ1 := (Post.grow gr).trans po
  have e0 : EnvRep X.K TB H1 (plus W p) O1 σ ρ1 := vp.envH.drop heldW_le
  cases ev : val ρ1 x with
  | int i =>
    rw [ev] at g2 rx
    have g2 : Go TB C Wx (kdV X.K TB σ) H W O ρ (ofOpt (cond (small i) (cond (sized (rangeL 0 i.toNat)) (some ⟨.dtt [.tup (rangeL 0 i.toNat)], .f⟩) none) none) ρ1) Q := g2
    cases es : small i with
    | false => rw [es] at g2; exact g2.elim
    | true =>
      rw [es] at g2
      cases ez : sized (rangeL 0 i.toNat) with
      | false => rw [ez] at g2; exact g2.elim
      | true =>
        rw [ez] at g2
        have g3 : Go TB C Wx (kdV X.K TB σ) H W O ρ (.ok ⟨.dtt [.tup (rangeL 0 i.toNat)], .f⟩ ρ1) Q := g2
        obtain ⟨h1, h2⟩ := small_of es
        have hz := sized_rg ez
        refine ⟨i, rx.int, ⟨by omega, by omega, by omega, by omega, by omega⟩, fun q hq => ?_⟩
        have nq : q ≠ p := fun z => by subst z; rw [hp1] at hq; cases hq
        have gq : Grow H1 (upd H1 q (.tup (rgV 0 i))) := Grow.upd hq
        have hks : ((ups 0 i.toNat).map Sum.inl : List Key).map kV = rgV 0 i := by
          unfold rgV ups
          rw [List.map_map, List.map_map, Int.sub_zero]
          rfl
        have hpq : upd H1 q (.tup (rgV 0 i)) p = some (.dT []) := by rw [upd_ne (Ne.symm nq)]; exact hp1
        refine ⟨q, _, hpq, rfl, by rw [hks]; exact upd_same, ?_⟩
        have en2 : EnvRep X.K TB (upd (upd H1 q (.tup (rgV 0 i))) p (.dT [(((ups 0 i.toNat).map Sum.inl : List Key), V.bl true)])) (plus W p) O1 σ ρ1 := (e0.grow gq).updWT (.inr rfl) hpq
        have pq : Post H O ρ (upd H1 q (.tup (rgV 0 i))) O1 ρ1 := pz.trans (Post.grow gq)
        have pz2 : Post H O ρ (upd (upd H1 q (.tup (rgV 0 i))) p (.dT [(((ups 0 i.toNat).map Sum.inl : List Key), V.bl true)])) O1 ρ1 := by
          refine ⟨pq.own, fun b o q n z => ?_, fun b o q z => ?_, pq.ne, pq.ows, pq.ms, pq.le⟩
          · have nb : b ≠ p := fun c => by subst c; rw [hp] at q; cases q
            rw [upd_ne nb]; exact pq.keep b o q n z
          · have nb : b ≠ p := fun c => by subst c; rw [hp] at q; cases q
            rw [upd_ne nb]; exact pq.per b o q z
        refine g3 (.ref p) _ O1 pz2 ⟨p, rfl, .inl (nn.of hp), ?_, .inr (.inr ⟨_, _, rfl, upd_same, [ups 0 i.toNat], ?_, rfl⟩), en2⟩
        · intro q
          rcases q with q | ⟨i, q⟩
          · obtain ⟨o, ho, _⟩ := en.wt p q
            rw [hp] at ho; cases ho
          · obtain ⟨o, ho⟩ := en.oth (po.own i p q)
            rw [hp] at ho; cases ho
        · rw [rangeL_map]; rfl
  | _ => rw [ev] at g2; exact g2.elim
end
end PB
end

section
set_option Elab.async false
set_option linter.all false
set_option maxRecDepth 100000
set_option maxHeartbeats 400000
/-! Sound58: d[tuple(list)] = True. -/
namespace PB
open PySem PySem.Spec PyProof.Rows L2
/-! ### keys -/
def tupI (l : List Int) : T := .tup (l.map T.int)
def kyI (l : List Int) : List Key × V := (l.map Sum.inl, V.bl true)
def insL (k : List Int) : List (List Int) → List (List Int)
  | [] => [k]
  | x :: r => if x = k then x :: r else x :: insL k r
theorem allI_some : ∀ {k : List T}, allI k = true → ∃ l : List Int, k = l.map T.int
  | [], _ => ⟨[], rfl⟩
  | .int i :: r, h => by
    obtain ⟨l, e⟩ := allI_some (k := r) h
    exact ⟨i :: l, by rw [e]; rfl⟩
  | .non :: _, h => by cases h
  | .bl _ :: _, h => by cases h
  | .str _ :: _, h => by cases h
  | .tup _ :: _, h => by cases h
  | .lst _ :: _, h => by cases h
  | .dct _ :: _, h => by cases h
  | .scr _ :: _, h => by cases h
  | .tpd _ :: _, h => by cases h
  | .dtt _ :: _, h => by cases h
theorem eqvs_ints : ∀ a b : List Int, T.eqvs (a.map T.int) (b.map T.int) = decide (a = b)
  | [], [] => rfl
  | [], _ :: _ => rfl
  | _ :: _, [] => rfl
  | x :: a, y :: b => by
    show cond (iEq x y) (T.eqvs (a.map T.int) (b.map T.int)) false = _
    rw [iEq_beq, eqvs_ints a b]
    by_cases c : x = y
    · subst c
      rw [beq_self_eq_true]
      show decide (a = b) = _
      by_cases d : a = b
      · subst d; rw [decide_eq_true rfl, decide_eq_true rfl]
      · rw [decide_eq_false d, decide_eq_false fun z => d (List.cons.inj z).2]
    · rw [beq_eq_false_iff_ne.mpr c, decide_eq_false fun z => c (List.cons.inj z).1]; rfl
theorem ttPut_ins (k : List Int) : ∀ ls : List (List Int), ttPut (tupI k) (ls.map tupI) = (insL k ls).map tupI
  | [] => rfl
  | x :: r => by
    show cond (T.eqvs (x.map T.int) (k.map T.int)) (tupI x :: r.map tupI) (tupI x :: ttPut (tupI k) (r.map tupI)) = _
    have e : insL k (x :: r) = if x = k then x :: r else x :: insL k r := rfl
    rw [eqvs_ints, ttPut_ins k r, e]
    by_cases c : x = k
    · rw [if_pos c, decide_eq_true c]; rfl
    · rw [if_neg c, decide_eq_false c]; rfl
theorem inl_inj {a b : List Int} (h : (a.map Sum.inl : List Key) = b.map Sum.inl) : a = b := by
  have := congrArg (List.map fun z : Key => match z with | .inl i => i | .inr _ => 0) h
  rwa [List.map_map, List.map_map, show ((fun z : Key => match z with | .inl i => i | .inr _ => 0) ∘ Sum.inl) = (id : Int → Int) from rfl, List.map_id, List.map_id] at this
theorem insL_mem (k : List Int) : ∀ ls : List (List Int), k ∈ ls → insL k ls = ls
  | [], h => by cases h
  | x :: r, h => by
    unfold insL
    by_cases c : x = k
    · rw [if_pos c]
    · rw [if_neg c]
      rcases List.mem_cons.mp h with z | z
      · exact absurd z.symm c
      · rw [insL_mem k r z]
theorem insL_new (k : List Int) : ∀ ls : List (List Int), k ∉ ls → insL k ls = ls ++ [k]
  | [], _ => rfl
  | x :: r, h => by
    unfold insL
    rw [if_neg fun z => h (by rw [z]; exact .head _), insL_new k r fun z => h (.tail _ z)]
    rfl
theorem put_ins (k : List Int) (ls : List (List Int)) : putK (ls.map kyI) (k.map Sum.inl) (V.bl true) = (insL k ls).map kyI := by
  unfold putK
  by_cases c : k ∈ ls
  · rw [insL_mem k ls c, if_pos ?_]
    · rw [List.map_map]
      apply List.map_congr_left
      intro x hx
      show (if (kyI x).1 = k.map Sum.inl then ((kyI x).1, V.bl true) else kyI x) = kyI x
      split <;> rfl
    · rw [List.any_eq_true]
      exact ⟨kyI k, List.mem_map.mpr ⟨k, c, rfl⟩, decide_eq_true rfl⟩
  · rw [insL_new k ls c, if_neg ?_, List.map_append]
    · rfl
    · rw [List.any_eq_true]
      rintro ⟨p, hp, e⟩
      obtain ⟨x, hx, rfl⟩ := List.mem_map.mp hp
      have := inl_inj (of_decide_eq_true e)
      exact c (this ▸ hx)
/-! ### the store -/
def ttSet : T → T → T → Option T
  | .dtt ks, .lst k, .bl true => cond (allI k) (cond (sized ks) (some (.dtt (ttPut (.tup k) ks))) none) none
  | _, _, _ => none
def tsT1 (i : Nat) (y x : T) (ρ : Env) : Sl → R Unit
  | .ow b u => (match ttSet u y x with
    | some u' => .ok () (put ρ i (.ow b u'))
    | none => .bad)
  | _ => .bad
def tsTK (i : Nat) (a : EV) : EA := fun x ρ => cond (isOw (slotAt ρ i)) ((a ρ).bind fun y ρ => match giv1 x with
  | some t => tsT1 i (val ρ y) t ρ (slotAt ρ i)
  | none => .bad) .bad
def rSt2 : TSet := fun o i v H Q => ∃ a kvs b ks, o = .ref a ∧ H a = some (.dT kvs) ∧ i = .ref b ∧ H b = some (.tup (ks.map kV)) ∧ kvs.length < sizeLine ∧ Q (upd H a (.dT (putK kvs ks v)))
theorem ok_set2 {X : Cx} (hu : X.A.units + 1 < cLine) : PSet X rSt2 := by
  intro pins s σ H o i v ov iv u Q I ro ri rv h
  obtain ⟨a, kvs, b, ks, rfl, ha, rfl, hb, hl, q⟩ := h
  cases ro
  exact d_setItem hu I (DPut.t ha hb hl) ri rv fun s' I' => ⟨_, I', q⟩
theorem tE_mono {K : PySem.W.Frag} {TB : List (Addr × Str)} {C : CT} {Wx : WX} {H : Hp} {σ : L2.St} {ra : EV} {Q Q' : VK} (h : ∀ v H1, Q v H1 → Q' v H1) (g : tE K TB C Wx ra σ H Q) : tE K TB C Wx ra σ H Q' := by
  obtain ⟨W, O, ρ, en, g⟩ := g
  have g : Go TB C Wx (kdV K TB σ) H W O ρ (ra ρ) Q := g
  refine ⟨W, O, ρ, en, ?_⟩
  show Go TB C Wx (kdV K TB σ) H W O ρ (ra ρ) Q'
  cases e : ra ρ with
  | ok x ρ1 => rw [e] at g; exact fun v H' O' p vp => h _ _ (g v H' O' p vp)
  | exc c x => rw [e] at g; exact g
  | bad => rw [e] at g; exact g
def tTL (K : PySem.W.Frag) (te : TE) : TE := fun σ H Q => te σ H fun v H1 => ∃ l vs, v = .ref l ∧ SqL K H1 l vs ∧ ∀ p, H1 p = none → Q (.ref p) (upd H1 p (.tup vs))
section
variable {K : PySem.W.Frag} {TB : List (Addr × Str)} {C : CT} {Wx : WX} {H : Hp} {σ : L2.St} {ra : EV}
theorem sem_tsT {i : Nat} {v : V} {Q : L2.St → Hp → Prop} (g : tG K TB C Wx (tsTK i ra) v σ H Q) : gSub (tVar i) (tTL K (tE K TB C Wx ra)) rSt2 v σ H Q := by
  obtain ⟨Nw, W, O, ρ, x, vp, g⟩ := g
  have g : SGo K TB C Wx (held x v) H W O ρ σ (cond (isOw (slotAt ρ i)) ((ra ρ).bind fun y ρ => match giv1 x with | some t => tsT1 i (val ρ y) t ρ (slotAt ρ i) | none => .bad) .bad) (fun _ σ' H' _ _ => Q σ' H') := g
  cases ei : isOw (slotAt ρ i) with
  | false => rw [ei] at g; exact g.elim
  | true =>
    rw [ei] at g
    have g : SGo K TB C Wx (held x v) H W O ρ σ ((ra ρ).bind fun y ρ => match giv1 x with | some t => tsT1 i (val ρ y) t ρ (slotAt ρ i) | none => .bad) (fun _ σ' H' _ _ => Q σ' H') := g
    obtain ⟨bb, u0, es⟩ := isOw_some ei
    obtain ⟨ad, ea, ev, own⟩ := vp.env.ow es
    refine ⟨.ref ad, ev, ?_⟩
    refine ⟨_, O, ρ, vp.envH, ?_⟩
    refine Go.shift (W := W) (W1 := heldW W x v) ?_ Post.refl heldW_le
    refine SGo.firstE' (k := kdV K TB σ) g fun y ρ1 w H1 O1 e p vp2 g1 => ?_
    have vp2 : VPost K TB (nw H O ρ) H1 W O1 σ ρ1 y w := vp2
    cases eg : giv1 x with
    | none =>
      have g1 : SGo K TB C Wx (held x v) H W O ρ σ (match giv1 x with | some t => tsT1 i (val ρ1 y) t ρ1 (slotAt ρ1 i) | none => .bad) (fun _ σ' H' _ _ => Q σ' H') := g1
      rw [eg] at g1; exact g1.elim
    | some t =>
      have g1 : SGo K TB C Wx (held x v) H W O ρ σ (match giv1 x with | some t => tsT1 i (val ρ1 y) t ρ1 (slotAt ρ1 i) | none => .bad) (fun _ σ' H' _ _ => Q σ' H') := g1
      rw [eg] at g1
      have g1 : SGo K TB C Wx (held x v) H W O ρ σ (tsT1 i (val ρ1 y) t ρ1 (slotAt ρ1 i)) (fun _ σ' H' _ _ => Q σ' H') := g1
      have rx := vp.giv1 p eg
      have en1 := vp2.env
      have rd := vp2.read
      cases es1 : slotAt ρ1 i with
      | ow b1 u =>
        rw [es1] at g1
        have g1 : SGo K TB C Wx (held x v) H W O ρ σ (match ttSet u (val ρ1 y) t with | some u' => .ok () (put ρ1 i (.ow b1 u')) | none => .bad) (fun _ σ' H' _ _ => Q σ' H') := g1
        cases em : ttSet u (val ρ1 y) t with
        | none => rw [em] at g1; exact g1.elim
        | some u' =>
          rw [em] at g1
          have g1 : SGo K TB C Wx (held x v) H W O ρ σ (.ok () (put ρ1 i (.ow b1 u'))) (fun _ σ' H' _ _ => Q σ' H') := g1
          obtain ⟨ad', ea', ev', own'⟩ := en1.ow es1
          have : ad' = ad := by rw [ev] at ev'; cases ev'; rfl
          subst this
          revert em rd
          generalize val ρ1 y = vy
          intro rd em
          cases u with
          | dtt ks =>
            cases vy with
            | lst k =>
              cases t with
              | bl bv =>
                cases bv with
                | false => cases em
                | true =>
                  have em : cond (allI k) (cond (sized ks) (some (.dtt (ttPut (.tup k) ks))) none) none = some u' := em
                  obtain ⟨c1, em⟩ := cond_some em
                  obtain ⟨c2, em⟩ := cond_some em
                  cases em
                  obtain ⟨kk, rfl⟩ := allI_some c1
                  obtain ⟨l, vs, rfl, hl, rr⟩ := rd.lst
                  obtain ⟨kvs, hd, ls, e1, e2⟩ := own'.dttE
                  have ev2 : vs = kk.map V.int := rr.ints
                  subst ev2
                  have ex : v = .bl true := (RRep.of rx).bl
                  refine ⟨l, _, rfl, SqL.of hl, fun q hq => ?_⟩
                  have nq : q ≠ ad' := fun z => by subst z; rw [hd] at hq; cases hq
                  have gq : Grow H1 (upd H1 q (.tup (kk.map V.int))) := Grow.upd hq
                  have hd2 : upd H1 q (.tup (kk.map V.int)) ad' = some (.dT kvs) := by rw [upd_ne (Ne.symm nq)]; exact hd
                  refine ⟨ad', kvs, q, kk.map Sum.inl, rfl, hd2, rfl, by rw [List.map_map]; exact upd_same, ?_, ?_⟩
                  · rw [← tks_len ⟨ls, e1, e2⟩]; exact sized_le c2
                  · have eK : putK kvs (kk.map Sum.inl) v = (insL kk ls).map kyI := by
                      rw [e2, ex]
                      exact put_ins kk ls
                    have eT : ttPut (.tup (kk.map T.int)) ks = (insL kk ls).map tupI := by
                      rw [e1]
                      exact ttPut_ins kk ls
                    have r' : OwnRep K (upd (upd H1 q (.tup (kk.map V.int))) ad' (.dT (putK kvs (kk.map Sum.inl) v))) (NG W O1) (.dtt (ttPut (.tup (kk.map T.int)) ks)) ad' :=
                      .inr (.inr ⟨_, _, rfl, upd_same, insL kk ls, eT, eK⟩)
                    obtain ⟨k1, k2⟩ := (en1.grow gq).mut es1 ea' .upd r'
                    exact g1 σ _ O1 (.of ((p.trans (Post.grow gq)).trans k2)) k1
              | _ => cases em
            | _ => cases em
          | _ => cases em
      | _ => rw [es1] at g1; exact g1.elim
end
section
variable {X : Cx} {TB : List (Addr × Str)} {C : CT} {Wx : WX} {k i : Nat} {x : Str} {e : Expr} {ra : EV} {p p1 pos pos1 : Pos}
theorem q_tsT (c : Cxt X Wx k) (hm : X.mg "tuple" = none) (he : PE X e (tE X.K TB C Wx ra)) (hN : X.N[i]? = some x := by rfl) (hv : Vis X.env.scope x := by first | exact .inl rfl | exact .inr (.inl rfl) | exact .inr (.inr rfl)) (hd : (x == ("__debug__" : Str)) = false := by decide) (hcd : (x == ("__classdict__" : Str)) = false := by decide)
    (hg : Gl X "tuple" := by rfl) (hs : starEach [e] X.env = (false, eval e X.env) :: starEach [] X.env := by rfl)
    (ha : ∀ v, assign (.Subscript (.Name x p) (.Call (.Name "tuple" p1) [e] [] pos1) pos) X.env v = (do
      let ov ← holding [v] (eval (.Name x p) X.env)
      let iv ← holding [v, ov] (eval (.Call (.Name "tuple" p1) [e] [] pos1) X.env)
      standAt pos
      holding [v, ov, iv] (setItem ov iv v)
      release [v, ov, iv] []) := by intro _; rfl) : PG X (.Subscript (.Name x p) (.Call (.Name "tuple" p1) [e] [] pos1) pos) (tG X.K TB C Wx (tsTK i ra)) := by
  have hi : PE X (.Call (.Name "tuple" p1) [e] [] pos1) (tTL X.K (tE X.K TB C Wx ra)) := by
    refine (pe_callTy call_tuple_of hg hm rfl (pa_cons he pa_nil hs) (by decide) (by decide) hs rfl).mono fun σ H Q g => ?_
    refine tE_mono (fun v H1 z => ?_) g
    obtain ⟨l, vs, rfl, hl, q⟩ := z
    exact ⟨l, vs, rfl, .inl ⟨hl, q⟩⟩
  exact (pg_sub (pe_var hN hv hd hcd) hi (ok_set2 c.u1) ha).mono fun _ _ _ _ g => sem_tsT g
end
end PB
end

section
set_option Elab.async false
set_option linter.all false
set_option maxRecDepth 100000
set_option maxHeartbeats 400000
/-! Sound59: sorted of pairs (a whole number, a tuple of whole numbers). -/
namespace PB
open PySem PySem.Spec PyProof.Rows L2
def ltI : List Int → List Int → Bool
  | [], [] => false
  | [], _ :: _ => true
  | _ :: _, [] => false
  | x :: a, y :: b => cond (iEq x y) (ltI a b) (iLt x y)
theorem ltI_cons (x y : Int) (a b : List Int) : ltI (x :: a) (y :: b) = true ↔ x < y ∨ (x = y ∧ ltI a b = true) := by
  show cond (iEq x y) (ltI a b) (iLt x y) = true ↔ _
  rw [iEq_beq, iLt_eq]
  by_cases c : x = y
  · subst c
    rw [beq_self_eq_true]
    exact ⟨fun h => .inr ⟨rfl, h⟩, fun h => h.elim (fun z => absurd z (Int.lt_irrefl x)) (·.2)⟩
  · rw [beq_eq_false_iff_ne.mpr c]
    exact ⟨fun h => .inl (of_decide_eq_true h), fun h => h.elim (fun z => decide_eq_true z) fun z => absurd z.1 c⟩
theorem ltI_dec : ∀ a b : List Int, ltI a b = decide (a < b)
  | [], [] => by simp [ltI]
  | [], _ :: _ => by simp [ltI]
  | _ :: _, [] => by simp [ltI]
  | x :: a, y :: b => by
    rw [Bool.eq_iff_iff, ltI_cons, ltI_dec a b, decide_eq_true_iff, decide_eq_true_iff, List.cons_lt_cons_iff]
theorem ltI_neg : ∀ {c a b : List Int}, ltI c a = true → ltI c b = true ∨ ltI b a = true
  | [], [], _, h => by cases h
  | [], _ :: _, [], h => .inr rfl
  | [], _ :: _, _ :: _, h => .inl rfl
  | _ :: _, [], _, h => by cases h
  | x :: c, y :: a, [], h => .inr rfl
  | x :: c, y :: a, z :: b, h => by
    rw [ltI_cons, ltI_cons]
    rcases (ltI_cons ..).mp h with h | ⟨h1, h2⟩
    · by_cases k : x < z
      · exact .inl (.inl k)
      · exact .inr (.inl (by omega))
    · rcases ltI_neg (b := b) h2 with q | q
      · by_cases k : x = z
        · exact .inl (.inr ⟨k, q⟩)
        · by_cases k2 : x < z
          · exact .inl (.inl k2)
          · exact .inr (.inl (by omega))
      · by_cases k : z = y
        · exact .inr (.inr ⟨k, q⟩)
        · by_cases k2 : x < z
          · exact .inl (.inl k2)
          · exact .inr (.inl (by omega))
theorem ltI_irr : ∀ a : List Int, ltI a a = false
  | [] => rfl
  | x :: a => by
    rw [Bool.eq_false_iff]
    intro h
    rcases (ltI_cons ..).mp h with h | ⟨_, h⟩
    · exact Int.lt_irrefl _ h
    · rw [ltI_irr a] at h; cases h
theorem ltI_tri : ∀ {a b : List Int}, ltI a b = false → ltI b a = false → a = b
  | [], [], _, _ => rfl
  | [], _ :: _, h, _ => by cases h
  | _ :: _, [], _, h => by cases h
  | x :: a, y :: b, h, h' => by
    rw [Bool.eq_false_iff] at h h'
    have h := fun z => h ((ltI_cons ..).mpr z)
    have h' := fun z => h' ((ltI_cons ..).mpr z)
    have e : x = y := by
      have h1 : ¬ x < y := fun z => h (.inl z)
      have h2 : ¬ y < x := fun z => h' (.inl z)
      omega
    subst e
    rw [ltI_tri (a := a) (b := b) (Bool.eq_false_iff.mpr fun z => h (.inr ⟨rfl, z⟩)) (Bool.eq_false_iff.mpr fun z => h' (.inr ⟨rfl, z⟩))]
abbrev NP := Int × List Int
/-- as the lists of the number and the others -/
def ltP (p q : NP) : Bool := ltI (p.1 :: p.2) (q.1 :: q.2)
def leP (p q : NP) : Bool := !ltP q p
theorem leP_trans (x y z : NP) (h : leP x y = true) (h' : leP y z = true) : leP x z = true := by
  unfold leP ltP at *
  rw [Bool.not_eq_true'] at *
  rw [Bool.eq_false_iff]
  intro k
  rcases ltI_neg (b := y.1 :: y.2) k with q | q
  · rw [h'] at q; cases q
  · rw [h] at q; cases q
theorem ltI_asym : ∀ {a b : List Int}, ltI a b = true → ltI b a = false
  | [], [], h => by cases h
  | [], _ :: _, _ => rfl
  | _ :: _, [], h => by cases h
  | x :: a, y :: b, h => by
    rw [Bool.eq_false_iff]
    intro k
    rcases (ltI_cons ..).mp h with h | ⟨h1, h2⟩
    · rcases (ltI_cons ..).mp k with k | ⟨k1, k2⟩ <;> omega
    · rcases (ltI_cons ..).mp k with k | ⟨k1, k2⟩
      · omega
      · rw [ltI_asym h2] at k2; cases k2
theorem leP_total (x y : NP) : (leP x y || leP y x) = true := by
  unfold leP ltP
  cases e : ltI (y.1 :: y.2) (x.1 :: x.2) with
  | false => rfl
  | true => rw [ltI_asym e]; rfl
theorem leP_anti (x y : NP) (h : leP x y = true) (h' : leP y x = true) : x = y := by
  unfold leP ltP at *
  rw [Bool.not_eq_true'] at *
  have e := ltI_tri h' h
  injection e with e1 e2
  exact Prod.ext e1 e2
def insP (x : NP) : List NP → List NP
  | [] => [x]
  | y :: r => cond (ltP y x) (y :: insP x r) (x :: y :: r)
def sortP : List NP → List NP
  | [] => []
  | x :: r => insP x (sortP r)
theorem insP_perm (x : NP) : ∀ l, (insP x l).Perm (x :: l)
  | [] => .refl _
  | y :: r => by
    show (cond (ltP y x) (y :: insP x r) (x :: y :: r)).Perm _
    cases ltP y x with
    | true => exact ((insP_perm x r).cons y).trans (.swap ..)
    | false => exact .refl _
theorem sortP_perm : ∀ l, (sortP l).Perm l
  | [] => .refl _
  | x :: r => (insP_perm x (sortP r)).trans ((sortP_perm r).cons x)
theorem insP_pw (x : NP) : ∀ l : List NP, l.Pairwise (fun a b => leP a b = true) → (insP x l).Pairwise (fun a b => leP a b = true)
  | [], _ => List.pairwise_singleton ..
  | y :: r, h => by
    obtain ⟨h1, h2⟩ := List.pairwise_cons.mp h
    show (cond (ltP y x) (y :: insP x r) (x :: y :: r)).Pairwise _
    cases e : ltP y x with
    | true =>
      refine List.pairwise_cons.mpr ⟨fun z m => ?_, insP_pw x r h2⟩
      rcases List.mem_cons.mp ((insP_perm x r).mem_iff.mp m) with c | c
      · subst c
        show (!ltP z y) = true
        unfold ltP at *
        rw [ltI_asym e]; rfl
      · exact h1 z c
    | false =>
      have q : leP x y = true := by show (!ltP y x) = true; rw [e]; rfl
      refine List.pairwise_cons.mpr ⟨fun z m => ?_, h⟩
      rcases List.mem_cons.mp m with c | c
      · subst c; exact q
      · exact leP_trans _ _ _ q (h1 z c)
theorem sortP_pw : ∀ l, (sortP l).Pairwise (fun a b => leP a b = true)
  | [] => .nil
  | x :: r => insP_pw x _ (sortP_pw r)
theorem sortP_eq (l : List NP) : sortP l = l.mergeSort leP := PySem.W.Srt.the_of_perm leP leP_trans leP_total leP_anti (sortP_perm l) (sortP_pw l)
/-! ### as data -/
def encP (p : NP) : PyData := .tuple [.int p.1, .tuple (p.2.map .int)]
theorem toDs_ints : ∀ l : List Int, toDs (l.map T.int) = l.map PyData.int
  | [] => rfl
  | x :: r => congrArg (PyData.int x :: ·) (toDs_ints r)
theorem eqv_ints (a b : List Int) : PyData.eqv (.tuple (a.map .int)) (.tuple (b.map .int)) = decide (a = b) := by
  have h := eqv_toD (.tup (a.map T.int)) (.tup (b.map T.int))
  have e : T.eqv (.tup (a.map T.int)) (.tup (b.map T.int)) = decide (a = b) := eqvs_ints a b
  rw [e] at h
  rw [h]
  show _ = PyData.eqv (.tuple (toDs (a.map T.int))) (.tuple (toDs (b.map T.int)))
  rw [toDs_ints, toDs_ints]
theorem alike_ints : ∀ a b : List Int, PySem.W.alikeAll (a.map PyData.int) (b.map PyData.int) = true
  | [], _ => by simp [PySem.W.alikeAll]
  | _ :: _, [] => by simp [PySem.W.alikeAll]
  | x :: a, y :: b => by simp [PySem.W.alikeAll, PySem.W.alike, alike_ints a b]
theorem lt_enc (p q : NP) : PySem.W.dataLt (encP p) (encP q) = ltP p q := by
  unfold encP
  rw [PySem.W.dataLt_pair (by simp [PySem.W.alike]) (by simp [PySem.W.alike, alike_ints]), eqv_ints, PySem.W.dataLt_int, PySem.W.dataLt_tuple]
  have e := PySem.W.dataLt_ints p.2 q.2
  unfold PySem.W.rowLt at e
  rw [e]
  show (if (PyData.eqv (.int p.1) (.int q.1)) = true then (if decide (p.2 = q.2) = true then false else decide (p.2 < q.2)) else decide (p.1 < q.1)) = cond (iEq p.1 q.1) (ltI p.2 q.2) (iLt p.1 q.1)
  rw [iEq_beq, iLt_eq, ltI_dec]
  have e2 : PyData.eqv (.int p.1) (.int q.1) = (p.1 == q.1) := by simp [PyData.eqv]
  rw [e2]
  cases p.1 == q.1 with
  | true =>
    show (if decide (p.2 = q.2) = true then false else decide (p.2 < q.2)) = decide (p.2 < q.2)
    by_cases c : p.2 = q.2
    · rw [if_pos (decide_eq_true c), ← ltI_dec, c, ltI_irr]
    · rw [if_neg (by rw [decide_eq_false c]; exact Bool.false_ne_true)]
  | false => rfl
theorem le_enc : PySem.W.dataLe false encP = leP := by
  funext a b
  show (!PySem.W.dataLt (encP b) (encP a)) = !ltP b a
  rw [lt_enc]
/-! ### the call -/
def npT : T → Option NP
  | .tpd [.int n, .tup k] => optBind (allInts k) fun l => some (n, l)
  | _ => none
def npTs : List T → Option (List NP)
  | [] => some []
  | t :: r => optBind (npT t) fun p => optBind (npTs r) fun l => some (p :: l)
def treeP (p : NP) : T := .tpd [.int p.1, .tup (p.2.map T.int)]
def sortD : List T → Option TK
  | [.lst xs] => optBind (npTs xs) fun bs => some ⟨.lst ((sortP bs).map treeP), .f⟩
  | _ => none
theorem npT_some {t : T} {p : NP} (h : npT t = some p) : t = treeP p := by
  unfold npT at h
  split at h
  · obtain ⟨l, e1, e2⟩ := optBind_some h
    cases e2
    rw [allInts_some e1]; rfl
  · cases h
theorem npTs_some : ∀ {ts : List T} {bs : List NP}, npTs ts = some bs → ts = bs.map treeP
  | [], bs, h => by cases h; rfl
  | t :: r, bs, h => by
    obtain ⟨p, e1, h⟩ := optBind_some h
    obtain ⟨l, e2, e3⟩ := optBind_some h
    cases e3
    rw [npT_some e1, npTs_some e2]; rfl
theorem toD_tree (p : NP) : toD (treeP p) = encP p := by
  show PyData.tuple [.int p.1, .tuple (toDs (p.2.map T.int))] = _
  rw [toDs_ints]; rfl
theorem all_ints_data (n : Nat) : ∀ l : List Int, allT (T.dataN n) (l.map T.int) = true
  | [] => rfl
  | x :: r => by
    show cond (T.dataN n (.int x)) (allT (T.dataN n) (r.map T.int)) false = true
    rw [all_ints_data n r]
    cases n <;> rfl
theorem tree_data (p : NP) : T.dataN 2 (treeP p) = true := by
  show cond (T.dataN 1 (.int p.1)) (cond (T.dataN 1 (.tup (p.2.map T.int))) true false) false = true
  have e : T.dataN 1 (.tup (p.2.map T.int)) = true := all_ints_data 0 p.2
  rw [e]; rfl
section
variable {X : Cx}
def RV (K : PySem.W.Frag) (H : Hp) (N : Addr → Prop) (u : Value) (p : NP) : Prop := ∃ x : V, L2.RelV x u ∧ Rep K H N (treeP p) x
theorem each_of {K : PySem.W.Frag} {H : Hp} {N : Addr → Prop} : ∀ {bs : List NP} {vs : List V} {us : List Value}, Reps K H N (bs.map treeP) vs → Vals vs us → PySem.W.EachIs (RV K H N) us bs
  | [], _, _, .nil, .nil => .nil
  | p :: bs, _, _, .cons a b, .cons c d => .cons ⟨_, c, a⟩ (each_of b d)
theorem of_each {K : PySem.W.Frag} {H : Hp} {N : Addr → Prop} : ∀ {bs : List NP} {us : List Value}, PySem.W.EachIs (RV K H N) us bs → ∃ vs, Vals vs us ∧ Reps K H N (bs.map treeP) vs
  | [], _, .nil => ⟨[], .nil, .nil⟩
  | p :: bs, _, .cons ⟨x, a, b⟩ r => by
    obtain ⟨vs, c, d⟩ := of_each r
    exact ⟨x :: vs, .cons a c, .cons b d⟩
theorem ok_sortD (hu : X.A.units + 10 < cLine) : CallR X (.builtin "sorted") (rB X.K sortD) := by
  intro pins s σ H xs us Q I r h
  obtain ⟨N, ts, y, hr, e, q⟩ := h
  unfold sortD at e
  split at e
  · obtain ⟨bs, e1, e2⟩ := optBind_some e
    cases e2
    obtain ⟨v, rfl, hx⟩ := hr.one
    obtain ⟨a, vs, rfl, ha, ra⟩ := hx.lst
    have e1 := npTs_some e1
    subst e1
    obtain ⟨its, rv, hl, hz⟩ := I.list (SqL.of ha)
    rw [Vals.ref1 r]
    have ea := each_of ra rv
    have lb : bs.length = vs.length := by rw [← ra.length, List.length_map]
    have er : PySem.W.EachIs (fun v b => ∃ as, Reads s.heap v (encP b) as) its bs := ea.mono fun u p z => by
      obtain ⟨x, r1, r2⟩ := z
      rw [← toD_tree]
      exact Dp.reads I _ _ _ ((RRep.of r2).dp (tree_data p)) r1
    have hu2 : ∀ b, b ∈ bs → X.A.units + 2 + (encP b).depth < cLine := fun b _ => by
      have hd : (encP b).depth ≤ 2 := by
        rw [← toD_tree]
        exact (lay_of 2 _ (tree_data b)).2
      omega
    refine PySem.W.sorted_data (R := RV X.K H N) (enc := encP) (bs := bs) hl.isList ea er (PySem.W.AllAlike.of fun b b' => by simp [PySem.W.alike, PySem.W.alikeAll, encP, alike_ints]) (PySem.W.Sortable.tuples fun b => ⟨_, _, rfl⟩) (by rw [lb]; exact hz) hu2 ?_
    intro out ho eo
    rw [le_enc, ← sortP_eq] at eo
    obtain ⟨ws, w1, w2⟩ := of_each eo
    obtain ⟨ep, he'⟩ := PyProof.Rows.sortedAll_at s.heap its (List.toArray out)
    have hlen : ws.length ≤ sizeLine := by
      rw [w1.length, ho, lb]; exact hz
    exact ⟨.ref _, L2.upd H (s.heap.objs.size + 1) (.lst ws), I.laid (t' := s.toks) (fun _ _ => PyProof.Rows.sortedAll_old) (Nat.le_succ _) ⟨hlen, out, ep, w1, he'⟩, rfl, q.newL w2 _ (I.hok.fresh (Nat.le_succ _))⟩
  · cases e
end
end PB
end

section
set_option Elab.async false
set_option linter.all false
set_option maxRecDepth 100000
set_option maxHeartbeats 400000
/-! Sound60: the rule of such a sort. -/
namespace PB
open PySem PySem.Spec PyProof.Rows L2
def sortDK (es : EVs) : EV := fun ρ => (es ρ).bind fun l ρ => ofOpt (sortD (trees ρ l)) ρ
section
variable {X : Cx} {TB : List (Addr × Str)} {C : CT} {Wx : WX} {k : Nat} {e : Expr} {es : List Expr} {rl : EVs} {p pos : Pos}
theorem q_sortD (c : Cxt X Wx k) (hm : X.mg "sorted" = none) (ha : PA X (e :: es) (tA X.K TB C Wx rl)) (hg : Gl X "sorted" := by rfl)
    (he : starEach (e :: es) X.env = (false, eval e X.env) :: starEach es X.env := by rfl) (hpl : (backTo pos (starEach es X.env)).any (·.1) = false := by rfl) : PE X (.Call (.Name "sorted" p) (e :: es) [] pos) (tE X.K TB C Wx (sortDK rl)) := by
  refine (pe_callB (ok_sortD (by have := c.u65; omega)) hg hm rfl ha (by decide) (by decide) he hpl).mono fun σ H Q g => ?_
  refine sevl g fun Nw W O ρ l vs fr H1 vp g => ?_
  obtain ⟨r, er, q⟩ := Go.ofOpt vp.env0 g
  exact ⟨_, _, r, vp.reads, er, q⟩
end
end PB
end

section
set_option Elab.async false
set_option linter.all false
set_option maxRecDepth 100000
set_option maxHeartbeats 400000
/-! Sound61: tuple(list), the new tuple's object told. -/
namespace PB
open PySem PySem.Spec PyProof.Rows L2
section
variable {X : Cx}
theorem call_tuple_frz : CallR X (.type "tuple") (fun xs H Q => ∃ p ys, xs = [.ref p] ∧ SqL X.K H p ys ∧ ∀ l (o : Obj), H l = none → o.dict = none → Q (.ref l) (upd H l (.frz o (.tup ys)))) := by
  intro pins s σ H xs us Q I r h
  obtain ⟨p, ys, rfl, hq, q⟩ := h
  rw [Vals.ref1 r]
  obtain ⟨its, r', pl, hz⟩ := I.list hq
  have hlen := r'.length
  refine call_tuple_list pl.isList (fun h' kp => ?_) (by simp only [List.size_toArray] <;> omega)
  have I1 : Inv X pins σ H { s with heap := h' } := I.kept (t' := s.toks) kp
  have I2 := I1.laid (a := h'.objs.size) (o := .frz { cls := .type "tuple", data := .seq its.toArray } (.tup ys)) (h' := h'.push { cls := .type "tuple", data := .seq its.toArray }) (t' := s.toks) (fun b o e => Heap.get?_push_of_some _ e) (Nat.le_refl _) ⟨Heap.get?_push_size _ rfl, hz, its, r', IsTup.new _ _⟩
  exact ⟨.ref h'.objs.size, _, I2, rfl, q _ _ (I1.hok.fresh (Nat.le_refl _)) rfl⟩
end
def tupF1 : List T → Option TK
  | [.lst xs] => some ⟨.tpd xs, .s⟩
  | _ => none
def tupFK (es : EVs) : EV := fun ρ => (es ρ).bind fun l ρ => ofOpt (tupF1 (trees ρ l)) ρ
section
variable {X : Cx} {TB : List (Addr × Str)} {C : CT} {Wx : WX} {k : Nat} {e : Expr} {es : List Expr} {rl : EVs} {p pos : Pos}
theorem q_tupF (hm : X.mg "tuple" = none) (ha : PA X (e :: es) (tA X.K TB C Wx rl)) (hg : Gl X "tuple" := by rfl)
    (he : starEach (e :: es) X.env = (false, eval e X.env) :: starEach es X.env := by rfl) (hpl : (backTo pos (starEach es X.env)).any (·.1) = false := by rfl) : PE X (.Call (.Name "tuple" p) (e :: es) [] pos) (tE X.K TB C Wx (tupFK rl)) := by
  refine (pe_callTy call_tuple_frz hg hm rfl ha (by decide) (by decide) he hpl).mono fun σ H Q g => ?_
  refine sevl g fun Nw W O ρ l vs fr H1 vp g => ?_
  obtain ⟨r, er, q⟩ := Go.ofOpt vp.env0 g
  have rs := vp.reads
  unfold tupF1 at er
  split at er
  · rename_i xs heq
    cases er
    rw [heq] at rs
    obtain ⟨v, rfl, hx⟩ := rs.one
    obtain ⟨a, ws, rfl, ha, ra⟩ := hx.lst
    exact ⟨a, ws, rfl, SqL.of ha, fun l o hl ho => q (.ref l) _ (Grow.upd hl) (.tpd upd_same ho (ra.grow (Grow.upd hl)))⟩
  · cases er
end
end PB
end

section
set_option Elab.async false
set_option linter.all false
set_option maxRecDepth 100000
set_option maxHeartbeats 400000
/-! Sound62: a comprehension whose first walk raises. -/
namespace PB
open PySem PySem.Spec PyProof.Rows L2
def excOr {α : Type} : R α → R TK → R TK
  | .exc c x, _ => .exc c x
  | _, r => r
def compXK (own pk : List Nat) (rt : EA) (it : EI) (rc : Env → R Bool) (re : EV) : EV := fun ρ => excOr (it (wipe own ρ)) (compK own (genK own pk rt it rc (eltK re)) ρ)
section
variable {K : PySem.W.Frag} {TB : List (Addr × Str)} {C : CT} {Wx : WX} {H : Hp} {σ : L2.St} {own pk : List Nat}
theorem sem_comp1x {it : EI} {rt : EA} {rc : Env → R Bool} {re : EV} {Q : VK} (g : tE K TB C Wx (compXK own pk rt it rc re) σ H Q) :
    tLc (tI K TB C Wx pk it) (tC K TB own rt) (tT K TB C wF rc) (tE K TB C wF re) own σ H Q := by
  obtain ⟨W, O, ρ, en, g⟩ := g
  have g : Go TB C Wx (kdV K TB σ) H W O ρ (excOr (it (PB.wipe own ρ)) (compK own (genK own pk rt it rc (eltK re)) ρ)) Q := g
  cases ei : it (PB.wipe own ρ) with
  | exc c x =>
    rw [ei] at g
    have g : Go TB C Wx (kdV K TB σ) H W O ρ (.exc c x : R TK) Q := g
    refine ⟨wipeW own O W, wipeO own O, PB.wipe own ρ, en.wipeW, ?_⟩
    rw [ei]
    intro cls d σ' H' xp
    refine g cls d σ' H' ⟨xp.cls, xp.pay.weak fun b q => ?_, fun b o e n z => xp.keep b o e (fun q => ?_) z, xp.tab, xp.per⟩
    · exact .inl q
    · obtain ⟨i, bb, t, e1, e2⟩ := q
      obtain ⟨h1, h2⟩ := wipeO_some e1
      rw [wipe_at, if_neg h1] at e2
      exact n ⟨i, bb, t, h2, e2⟩
  | ok l ρ1 =>
    rw [ei] at g
    exact sem_comp1 ⟨W, O, ρ, en, g⟩
  | bad =>
    rw [ei] at g
    exact sem_comp1 ⟨W, O, ρ, en, g⟩
end
section
variable {X : Cx} {TB : List (Addr × Str)} {C : CT} {Wx : WX} {k : Nat} {elt tg iter : Expr} {ifs : List Expr} {own pk : List Nat} {rt : EA} {it : EI} {rc : Env → R Bool} {re : EV} {pos : Pos} {scope : Scope}
theorem q_lcX (ow : List (Str × Nat)) (c : Cxt X Wx k) (hi : PI X tg iter (tI X.K TB C Wx pk it)) (hg : Bk X scope fun Y => PG Y tg (tC Y.K TB own rt)) (ht : Bk X scope fun Y => PTs Y ifs (tT X.K TB C wF rc)) (he : Bk X scope fun Y => PE Y elt (tE Y.K TB C wF re))
    (ok : blkC X.N X.env.scope scope ow = true := by kernel_rfl) (hO : ow.map (·.2) = own := by rfl) (hs : ∀ x, foldedSetIterable iter X.env x = pure x := by intro _; rfl) :
    PE X (.ListComp elt [⟨tg, iter, ifs, 0⟩] scope pos) (tE X.K TB C Wx (compXK own pk rt it rc re)) := by
  subst hO
  exact (pe_lc c.cm c.nd hi (blkOk_by ok) hg ht he hs).mono fun σ H Q g => sem_comp1x g
end
end PB
end

section
set_option Elab.async false
set_option linter.all false
set_option maxRecDepth 100000
set_option maxHeartbeats 400000
/-! Sound63: the Hook of Sound49, over a part that holds the statics too. -/
namespace PB
open PySem PySem.Spec PyProof.Rows L2
def asZ (g : Addr → Option Obj) (n : Nat) : List Addr := He.asD g n ++ [cStatics]
def obsZ (n : Nat) (fa : List He.Fa) (fn : List He.DefD) (ts : List He.Tab) (tf : List He.Defn) (ex : PySem.W.Frag → Bool) (sd : List SupD) (g : Addr → Option Obj) : AlY :=
  ((He.obsT fa fn ts (He.frT g (asZ g n)), ex (He.frT g (asZ g n)) && He.tabsB g tf (He.frT g (asZ g n))), sd.map (supO (He.frT g (asZ g n))))
theorem saysZ_of {n : Nat} {fa : List He.Fa} {fn : List He.DefD} {ts : List He.Tab} {tf : List He.Defn} {ex : PySem.W.Frag → Bool} {w : World} {h : Heap} (e : (He.obsT fa fn ts (He.frT h.get? (asZ h.get? n)), ex (He.frT h.get? (asZ h.get? n)) && He.tabsB h.get? tf (He.frT h.get? (asZ h.get? n))) = He.valX fn ts w) :
    He.SaysX fa fn ts tf ex w h (He.frT h.get? (asZ h.get? n)) := by
  generalize hA : asZ h.get? n = as at *
  have e1 := congrArg (fun z : He.AlX => z.1) e
  have e2 : (ex (He.frT h.get? as) && He.tabsB h.get? tf (He.frT h.get? as)) = true := congrArg (fun z : He.AlX => z.2) e
  obtain ⟨m1, m2⟩ := He.ba e2
  have told : ∀ d ∈ tf, PySem.W.codeHdIn (He.frT h.get? as) (He.cT (He.frT h.get? as) d).1 (He.cT (He.frT h.get? as) d).2 = true ∧ ∃ ob, h.get? (He.cT (He.frT h.get? as) d).2 = some ob ∧ He.emptyTab ob = true := fun d hd => by
    obtain ⟨m3, m4⟩ := He.ba (List.all_eq_true.mp m2 d hd)
    refine ⟨m3, ?_⟩
    cases z : h.get? (He.cT (He.frT h.get? as) d).2 with
    | none => rw [z] at m4; cases m4
    | some ob => rw [z] at m4; exact ⟨ob, rfl, m4⟩
  refine ⟨e1, m1, fun d hd => (told d hd).1, fun d hd => ?_, fun d hd => ?_⟩
  · obtain ⟨_, ob, z, t⟩ := told d hd
    exact He.frT_none z t
  · obtain ⟨_, ob, z, t⟩ := told d hd
    rw [z, He.emptyTab_eq t]
def hookZ (n : Nat) (fa : List He.Fa) (fn : List He.DefD) (ts : List He.Tab) (tf : List He.Defn) (ex : PySem.W.Frag → Bool) (sd : List SupD) (sv : List (Bool × FnC)) : PySem.W.Hook where
  α := AlY
  obs := fun s => obsZ n fa fn ts tf ex sd s.heap.get?
  val := fun w => (He.valX fn ts w, sv)
  says := fun w h => ∃ K : PySem.W.Frag, K.In h ∧ He.SaysX fa fn ts tf ex w h K ∧ sd.map (supO K) = sv
  of := fun _ _ e => ⟨_, He.frT_in, saysZ_of (congrArg (fun z : AlY => z.1) e), congrArg (fun z : AlY => z.2) e⟩
  keeps := fun _ _ _ ⟨K, hK, c, q⟩ k => ⟨K, PySem.W.Frag.In.keeps hK k, ⟨c.t, c.more, c.hd, c.out, fun p hp => k _ _ (c.empty p hp)⟩, q⟩
theorem obsZ_eq {n : Nat} {fa : List He.Fa} {fn : List He.DefD} {ts : List He.Tab} {tf : List He.Defn} {ex : PySem.W.Frag → Bool} {sd : List SupD} {sv : List (Bool × FnC)} {g : Addr → Option Obj} {s : Shared} (h : ∀ a, g a = s.heap.get? a) : obsZ n fa fn ts tf ex sd g = (hookZ n fa fn ts tf ex sd sv).obs s := by
  have e : g = s.heap.get? := funext h
  rw [e] <;> rfl
end PB
end

section
set_option Elab.async false
set_option linter.all false
set_option maxRecDepth 100000
set_option maxHeartbeats 4000000
namespace PB.K18
open PySem PySem.Spec PyProof.Rows L2 He
def top (i : Nat) : Stmt := PySem.Challenge.pw_bothbounds_k18_errors_of_cuts.main.body.getD i (.Pass ⟨0, 0, 0, 0⟩)
def CC (K : PySem.W.Frag) : CT
  | 1 => (.ref (ga K "BoundsError"), none)
  | 2 => (.ref (ga K "InvalidOrder"), none)
  | 3 => (.ref (ga K "InvalidHall"), none)
  | 4 => (.ref (ga K "InvalidMap"), none)
  | 5 => (.ref (ga K "InvalidLot"), none)
  | 6 => (.ref (ga K "TooMany"), some "limit")
  | _ => (.ref (ga K "BoundsError"), none)
/-- what the top binds -/
structure GF (P : Program) (w : World) (K : PySem.W.Frag) (mg : Str → Option Value) : Prop where
  b_abs : mg "abs" = none
  b_all : mg "all" = none
  b_any : mg "any" = none
  b_bool : mg "bool" = none
  b_enumerate : mg "enumerate" = none
  b_int : mg "int" = none
  b_isinstance : mg "isinstance" = none
  b_len : mg "len" = none
  b_list : mg "list" = none
  b_max : mg "max" = none
  b_min : mg "min" = none
  b_range : mg "range" = none
  b_sorted : mg "sorted" = none
  b_str : mg "str" = none
  b_sum : mg "sum" = none
  b_tuple : mg "tuple" = none
  b_zip : mg "zip" = none
  k_ABOVE : ∃ t, mg "ABOVE" = some (.str "above" t)
  k_BELOW : ∃ t, mg "BELOW" = some (.str "below" t)
  k_COMPLETION : ∃ t, mg "COMPLETION" = some (.str "completion" t)
  k_FOLLOWS : ∃ t, mg "FOLLOWS" = some (.str "follows" t)
  k_JOIN : ∃ t, mg "JOIN" = some (.str "join" t)
  k_MEET : ∃ t, mg "MEET" = some (.str "meet" t)
  k_MOST_CUT : ∃ t, mg "MOST_CUT" = some (.int 16 t)
  k_MOST_THINGS : ∃ t, mg "MOST_THINGS" = some (.int 16 t)
  k_ORDER : ∃ t, mg "ORDER" = some (.str "order" t)
  k_RING : ∃ t, mg "RING" = some (.str "ring" t)
  k_TWICE : ∃ t, mg "TWICE" = some (.str "twice" t)
  k_TWO_ABOVE : ∃ t, mg "TWO_ABOVE" = some (.str "two above" t)
  k_TWO_BELOW : ∃ t, mg "TWO_BELOW" = some (.str "two below" t)
  r_InvalidHall : Rai K mg (CC K) "InvalidHall" 3
  r_InvalidLot : Rai K mg (CC K) "InvalidLot" 5
  r_InvalidMap : Rai K mg (CC K) "InvalidMap" 4
  r_InvalidOrder : Rai K mg (CC K) "InvalidOrder" 2
  r_TooMany : RaiF P w K mg (CC K) "TooMany" 6
  f_TooMany : XfC K (ga K "TooMany") ∧ PySem.W.findIn K (.ref (ga K "TooMany")) "limit" = some none
  g_InvalidOrder : mg "InvalidOrder" = some (.ref (ga K "InvalidOrder"))
  x_InvalidOrder : ∀ c, PySem.W.exmOne K (CC K c).1 (.ref (ga K "InvalidOrder")) = some (Nat.beq c 2)
  g_InvalidHall : mg "InvalidHall" = some (.ref (ga K "InvalidHall"))
  x_InvalidHall : ∀ c, PySem.W.exmOne K (CC K c).1 (.ref (ga K "InvalidHall")) = some (Nat.beq c 3)
  g_InvalidMap : mg "InvalidMap" = some (.ref (ga K "InvalidMap"))
  x_InvalidMap : ∀ c, PySem.W.exmOne K (CC K c).1 (.ref (ga K "InvalidMap")) = some (Nat.beq c 4)
  g_InvalidLot : mg "InvalidLot" = some (.ref (ga K "InvalidLot"))
  x_InvalidLot : ∀ c, PySem.W.exmOne K (CC K c).1 (.ref (ga K "InvalidLot")) = some (Nat.beq c 5)
  g_TooMany : mg "TooMany" = some (.ref (ga K "TooMany"))
  x_TooMany : ∀ c, PySem.W.exmOne K (CC K c).1 (.ref (ga K "TooMany")) = some (Nat.beq c 6)
section
variable {P : Program} {w : World} {K : PySem.W.Frag} {mg : Str → Option Value} {base : Heap} {TB : List (Addr × Str)} {f : Addr} {fd : FuncData}
/-! is_int -/
abbrev s0 : Stmt := top 8
theorem sc0 : FnScope ["value"] ["value"] (defScope s0) := ⟨rfl, rfl, rfl, by decide +kernel, rfl, by decide +kernel, by decide +kernel⟩
def e0 : ES := (retK (andK (isiK (rdP 0) .int) (nvK (isiK (rdP 0) .bool))))
def f0 : Env → Rc := mkF 1 0 e0
theorem ok0 (G : GF P w K mg) (F : FunD K "is_int" "is_int" (defArgs s0) (defBody s0) (defScope s0) [] [] f fd) (hm : mg "is_int" = some (.ref f)) : Cal P w K mg base TB (CC K) 1 "is_int" ["value"] (mkF 1 0 e0) :=
  q_def F hm sc0 (fun _ => rfl) rfl rfl (fun _ _ _ _ _ _ us hl => match us, hl with | [_], _ => rfl) fun _ _ _ _ _ _ c hp => (s_one (s_ret (r_and (q_isi G.b_isinstance G.b_int q_p) (pe_one (r_nv (q_isi G.b_isinstance G.b_bool q_p))))))
/-! is_within -/
abbrev s1 : Stmt := top 9
theorem sc1 : FnScope ["value", "low", "high"] ["value", "low", "high"] (defScope s1) := ⟨rfl, rfl, rfl, by decide +kernel, rfl, by decide +kernel, by decide +kernel⟩
def e1 (g0 : Env → Rc) : ES := (retK (andK (callK g0 (consK (rdV 0) nilK)) (cmp2K .le .le (rdP 1) (rdP 0) (rdP 2))))
def f1 : Env → Rc := mkF 3 0 (e1 f0)
theorem ok1 {g0 : Env → Rc} (G : GF P w K mg) (F : FunD K "is_within" "is_within" (defArgs s1) (defBody s1) (defScope s1) [] [] f fd) (hm : mg "is_within" = some (.ref f)) (d0 : Cal P w K mg base TB (CC K) 1 "is_int" ["value"] g0) : Cal P w K mg base TB (CC K) 2 "is_within" ["value", "low", "high"] (mkF 3 0 (e1 g0)) :=
  q_def F hm sc1 (fun _ => rfl) rfl rfl (fun _ _ _ _ _ _ us hl => match us, hl with | [_, _, _], _ => rfl) fun _ _ _ _ _ _ c hp => (s_one (s_ret (r_and (q_call d0 c (q_cons q_v r_nil)) (pe_one (q_chain c q_p q_p q_p)))))
/-! is_thing_of -/
abbrev s2 : Stmt := top 10
theorem sc2 : FnScope ["size", "value"] ["size", "value"] (defScope s2) := ⟨rfl, rfl, rfl, by decide +kernel, rfl, by decide +kernel, by decide +kernel⟩
def e2 (g1 : Env → Rc) : ES := (retK (callK g1 (consK (rdV 1) (consK (cK (.int 0)) (consK (opK .sub (rdP 0) (cK (.int 1))) nilK)))))
def f2 : Env → Rc := mkF 2 0 (e2 f1)
theorem ok2 {g1 : Env → Rc} (G : GF P w K mg) (F : FunD K "is_thing_of" "is_thing_of" (defArgs s2) (defBody s2) (defScope s2) [] [] f fd) (hm : mg "is_thing_of" = some (.ref f)) (d1 : Cal P w K mg base TB (CC K) 2 "is_within" ["value", "low", "high"] g1) : Cal P w K mg base TB (CC K) 3 "is_thing_of" ["size", "value"] (mkF 2 0 (e2 g1)) :=
  q_def F hm sc2 (fun _ => rfl) rfl rfl (fun _ _ _ _ _ _ us hl => match us, hl with | [_, _], _ => rfl) fun _ _ _ _ _ _ c hp => (s_one (s_ret (q_call d1 c (q_cons q_v (q_cons r_int (q_cons (q_op q_p r_int) r_nil))))))
/-! is_pair_of -/
abbrev s3 : Stmt := top 11
theorem sc3 : FnScope ["size", "value", "one"] ["size", "value"] (defScope s3) := ⟨rfl, rfl, rfl, by decide +kernel, rfl, by decide +kernel, by decide +kernel⟩
def e3 (g2 : Env → Rc) : ES := (retK (andK (isiK (rdP 1) .tuple) (andK (cmpK .eq (bltK .len (consK (rdP 1) nilK)) (cK (.int 2))) (bltK .all (consK (compK [2] (genK [2] [1] (setSlot 2) (itlK [1] (rdP 1)) yesK (eltK (callK g2 (consK (rdV 0) (consK (rdV 2) nilK)))))) nilK)))))
def f3 : Env → Rc := mkF 2 1 (e3 f2)
theorem ok3 {g2 : Env → Rc} (G : GF P w K mg) (F : FunD K "is_pair_of" "is_pair_of" (defArgs s3) (defBody s3) (defScope s3) [] [] f fd) (hm : mg "is_pair_of" = some (.ref f)) (d2 : Cal P w K mg base TB (CC K) 3 "is_thing_of" ["size", "value"] g2) : Cal P w K mg base TB (CC K) 4 "is_pair_of" ["size", "value"] (mkF 2 1 (e3 g2)) :=
  q_def F hm sc3 (fun _ => rfl) rfl rfl (fun _ _ _ _ _ _ us hl => match us, hl with | [_, _], _ => rfl) fun _ _ _ _ _ _ c hp => (s_one (s_ret (r_and (q_isi G.b_isinstance G.b_tuple q_p) (r_and (q_cmp c (q_b ok_len G.b_len (q_cons q_p r_nil)) r_int) (pe_one (q_b (ok_all c.cm) G.b_all (q_cons (q_lc [("one", 2)] c (r_itl q_p) (q_bk c fun _ _ _ _ _ c => (q_cn c)) c_nil (q_bk c fun _ _ _ _ _ c => (q_call d2 c (q_cons q_v (q_cons q_v r_nil))))) r_nil)))))))
/-! reading_of -/
abbrev s7 : Stmt := top 20
theorem sc7 : FnScope ["size", "pairs", "found", "waits", "free", "far", "pair"] ["size", "pairs"] (defScope s7) := ⟨rfl, rfl, rfl, by decide +kernel, rfl, by decide +kernel, by decide +kernel⟩
def e7 : ES := (sqK (asgpK 2 (tconsK (setSlot 2) (tconsK (setSlot 3) tnilK)) (consK (lstK nilK) (consK (litK (rng1K (rdV 0))) nilK))) (sqK (whlK 400 (tvK (cmpK .ne (rdP 3) (lstK nilK))) (sqK (asgK (setSlot 4) (compK [5] (genK [5] [3] (setSlot 5) (itlK [3] (rdP 3)) (ntK (tvK (bltK .any (consK (compK [6] (genK [6] [1] (setSlot 6) (itlK [1] (rdP 1)) yesK (eltK (andK (cmpK .eq (ixK (rdP 6) (cK (.int 1))) (rdP 5)) (cmpK .isin (ixK (rdP 6) (cK (.int 0))) (rdP 3)))))) nilK)))) (eltK (rdV 5))))) (sqK (iteK (tvK (cmpK .eq (rdP 4) (lstK nilK))) (rtvK 2) skipK) (sqK (exK (mutK .append 2 (consK (ixK (rdP 4) (cK (.int 0))) nilK))) (asgK (setSlot 3) (compK [5] (genK [5] [3] (setSlot 5) (itlK [3] (rdP 3)) (tvK (cmpK .ne (rdP 5) (ixK (rdP 4) (cK (.int 0))))) (eltK (rdV 5))))))))) (rtvK 2)))
def f7 : Env → Rc := mkF 2 5 e7
theorem ok7 (G : GF P w K mg) (F : FunD K "reading_of" "reading_of" (defArgs s7) (defBody s7) (defScope s7) [] [] f fd) (hm : mg "reading_of" = some (.ref f)) : Cal P w K mg base TB (CC K) 1 "reading_of" ["size", "pairs"] (mkF 2 5 e7) :=
  q_def F hm sc7 (fun _ => rfl) rfl rfl (fun _ _ _ _ _ _ us hl => match us, hl with | [_, _], _ => rfl) fun _ _ _ _ _ _ c hp => (s_cons (q_asgt c (t_cons (q_tn c) (t_cons (q_tn c) t_nil)) (q_cons (r_lst r_nil) (q_cons (q_listrg c G.b_list G.b_range q_v) r_nil))) (s_cons (s_whl hp (q_tcmp c q_p (r_lst r_nil)) (s_cons (q_set c (q_lc [("far", 5)] c (r_itl q_p) (q_bk c fun _ _ _ _ _ c => (q_cn c)) (c_one (q_bk c fun _ _ _ _ _ c => (r_tnt (q_tv (q_b (ok_any c.cm) G.b_any (q_cons (q_lc [("pair", 6)] c (r_itl q_p) (q_bk c fun _ _ _ _ _ c => (q_cn c)) c_nil (q_bk c fun _ _ _ _ _ c => (r_and (q_cmp c (q_ix c q_p r_int) q_p) (pe_one (q_cmp c (q_ix c q_p r_int) q_p))))) r_nil)))))) (q_bk c fun _ _ _ _ _ c => q_v))) (s_cons (s_if (q_tcmp c q_p (r_lst r_nil)) (s_one q_rtv) s_nil) (s_cons (q_ex (q_append (q_cons (q_ix c q_p r_int) r_nil))) (s_one (q_set c (q_lc [("far", 5)] c (r_itl q_p) (q_bk c fun _ _ _ _ _ c => (q_cn c)) (c_one (q_bk c fun _ _ _ _ _ c => (q_tcmp c q_p (q_ix c q_p r_int)))) (q_bk c fun _ _ _ _ _ c => q_v)))))))) (s_one q_rtv)))
/-! ring_in -/
abbrev s8 : Stmt := top 21
theorem sc8 : FnScope ["size", "pairs", "left", "thing", "way", "ahead", "ring", "one", "far"] ["size", "pairs"] (defScope s8) := ⟨rfl, rfl, rfl, by decide +kernel, rfl, by decide +kernel, by decide +kernel⟩
def e8 (g7 : Env → Rc) : ES := (sqK (asgK (setSlot 2) (compK [3] (genK [3] [] (setSlot 3) (rng1K (rdV 0)) (tvK (cmpK .notin (rdP 3) (callK g7 (consK (rdV 0) (consK (rdV 1) nilK))))) (eltK (rdV 3))))) (sqK (iteK (tvK (cmpK .eq (rdP 2) (lstK nilK))) (retK (cK .non)) skipK) (sqK (asgK (setSlot 4) (lstK (consK (ixK (rdP 2) (cK (.int 0))) nilK))) (whlK 400 (tvK (cK (.bl true))) (sqK (asgK (setSlot 5) (compK [7, 8] (genK [7, 8] [1] (ttK 2 (tconsK (setSlot 7) (tconsK (setSlot 8) tnilK))) (itlK [1] (rdP 1)) (tandK (tvK (cmpK .eq (rdP 8) (ixK (rdP 4) (negK (cK (.int 1)))))) (tvK (cmpK .isin (rdP 7) (rdP 2)))) (eltK (rdV 7))))) (sqK (iteK (tvK (cmpK .isin (ixK (rdP 5) (cK (.int 0))) (rdP 4))) (sqK (asgK (setSlot 6) (slK (rdP 4) (smK (mthK .index (rdP 4) (consK (ixK (rdP 5) (cK (.int 0))) nilK))) noK)) (retK (bltK .tuple (consK (slrK (rdP 6)) nilK)))) skipK) (exK (mutK .append 4 (consK (ixK (rdP 5) (cK (.int 0))) nilK)))))))))
def f8 : Env → Rc := mkF 2 7 (e8 f7)
theorem ok8 {g7 : Env → Rc} (G : GF P w K mg) (F : FunD K "ring_in" "ring_in" (defArgs s8) (defBody s8) (defScope s8) [] [] f fd) (hm : mg "ring_in" = some (.ref f)) (d7 : Cal P w K mg base TB (CC K) 1 "reading_of" ["size", "pairs"] g7) : Cal P w K mg base TB (CC K) 2 "ring_in" ["size", "pairs"] (mkF 2 7 (e8 g7)) :=
  q_def F hm sc8 (fun _ => rfl) rfl rfl (fun _ _ _ _ _ _ us hl => match us, hl with | [_, _], _ => rfl) fun _ _ _ _ _ _ c hp => (s_cons (q_set c (q_lc [("thing", 3)] c (q_rng1 G.b_range q_v) (q_bk c fun _ _ _ _ _ c => (q_cn c)) (c_one (q_bk c fun _ _ _ _ _ c => (q_tcmp c q_p (q_call d7 c (q_cons q_v (q_cons q_v r_nil)))))) (q_bk c fun _ _ _ _ _ c => q_v))) (s_cons (s_if (q_tcmp c q_p (r_lst r_nil)) (s_one (s_ret r_non)) s_nil) (s_cons (q_set c (r_lst (q_cons (q_ix c q_p r_int) r_nil))) (s_one (s_whl hp (q_tv r_bl) (s_cons (q_lcS [("one", 7), ("far", 8)] c (r_itl q_p) (q_bk c fun _ _ _ _ _ c => (q_ct c (ct_cons (q_cn c) (ct_cons (q_cn c) ct_nil)))) (c_one (q_bk c fun _ _ _ _ _ c => (PW.pt (r_tand (q_tcmp c q_p (q_ix c q_p (r_neg r_int))) (pw_and1 (q_tcmp c q_p q_p)))))) (q_bk c fun _ _ _ _ _ c => q_v)) (s_cons (s_if (q_tcmp c (q_ix c q_p r_int) q_p) (s_cons (q_set c (r_sl q_p (r_sm (q_index c q_p (q_cons (q_ix c q_p r_int) r_nil))) r_no)) (s_one (s_ret (q_t ok_tuple G.b_tuple (q_cons (r_slr q_p) r_nil))))) s_nil) (s_one (q_ex (q_append (q_cons (q_ix c q_p r_int) r_nil)))))))))))
/-! next_in -/
abbrev s6 : Stmt := top 19
theorem sc6 : FnScope ["size", "pairs", "thing", "one", "far"] ["size", "pairs"] (defScope s6) := ⟨rfl, rfl, rfl, by decide +kernel, rfl, by decide +kernel, by decide +kernel⟩
def e6 : ES := (retK (compK [2] (genK [2] [] (setSlot 2) (rng1K (rdV 0)) yesK (eltK (bltK .sorted (consK (dcompK [3, 4] (dgenK [3, 4] [1] (ttK 2 (tconsK (setSlot 3) (tconsK (setSlot 4) tnilK))) (itlK [1] (rdP 1)) (tvK (cmpK .eq (rdP 3) (rdP 2))) (kvK (rdV 4) (cK (.bl true))))) nilK))))))
def f6 : Env → Rc := mkF 2 3 e6
theorem ok6 (G : GF P w K mg) (F : FunD K "next_in" "next_in" (defArgs s6) (defBody s6) (defScope s6) [] [] f fd) (hm : mg "next_in" = some (.ref f)) : Cal P w K mg base TB (CC K) 1 "next_in" ["size", "pairs"] (mkF 2 3 e6) :=
  q_def F hm sc6 (fun _ => rfl) rfl rfl (fun _ _ _ _ _ _ us hl => match us, hl with | [_, _], _ => rfl) fun _ _ _ _ _ _ c hp => (s_one (s_ret (q_lc [("thing", 2)] c (q_rng1 G.b_range q_v) (q_bk c fun _ _ _ _ _ c => (q_cn c)) c_nil (q_bk c fun _ _ _ _ _ c => (q_b (ok_sorted c.cm) G.b_sorted (q_cons (q_dc [("one", 3), ("far", 4)] c (r_itl q_p) (q_bk c fun _ _ _ _ _ c => (q_ct c (ct_cons (q_cn c) (ct_cons (q_cn c) ct_nil)))) (c_one (q_bk c fun _ _ _ _ _ c => (q_tcmp c q_p q_p))) (q_bk c fun _ _ _ _ _ c => q_v) (q_bk c fun _ _ _ _ _ c => r_bl)) r_nil))))))
/-! way_beside -/
abbrev s12 : Stmt := top 25
theorem sc12 : FnScope ["size", "pairs", "pair", "steps", "other", "ahead", "waits", "here", "far", "way"] ["size", "pairs", "pair"] (defScope s12) := ⟨rfl, rfl, rfl, by decide +kernel, rfl, by decide +kernel, by decide +kernel⟩
def e12 (g6 : Env → Rc) : ES := (sqK (asgK (setSlot 3) (callK g6 (consK (rdV 0) (consK (compK [4] (genK [4] [1] (setSlot 4) (itlK [1] (rdP 1)) (tvK (cmpK .ne (rdP 4) (rdP 2))) (eltK (rdV 4)))) nilK)))) (sqK (asgpK 2 (tconsK (setSlot 5) (tconsK (setSlot 6) tnilK)) (consK (dctK (consK (ixK (rdP 2) (cK (.int 0))) (consK (cK .non) nilK))) (consK (lstK (consK (ixK (rdP 2) (cK (.int 0))) nilK)) nilK))) (sqK (whlK 400 (tvK (cmpK .ne (rdP 6) (lstK nilK))) (sqK (asgK (setSlot 7) (mutK .popAt 6 (consK (cK (.int 0)) nilK))) (frK [] (setSlot 8) (itlK [] (ixK (rdP 3) (rdP 7))) (iteK (tvK (cmpK .notin (rdP 8) (rdP 5))) (sqK (asgK (tsK 5 (rdV 8)) (rdV 7)) (exK (mutK .append 6 (consK (rdV 8) nilK)))) skipK)))) (sqK (iteK (tvK (cmpK .notin (ixK (rdP 2) (cK (.int 1))) (rdP 5))) (retK (cK .non)) skipK) (sqK (asgK (setSlot 9) (lstK (consK (ixK (rdP 2) (cK (.int 1))) nilK))) (sqK (whlK 400 (tvK (cmpK .isnot (ixK (rdP 5) (ixK (rdP 9) (negK (cK (.int 1))))) (cK .non))) (exK (mutK .append 9 (consK (ixK (rdP 5) (ixK (rdP 9) (negK (cK (.int 1))))) nilK)))) (retK (bltK .tuple (consK (slrK (rdP 9)) nilK)))))))))
def f12 : Env → Rc := mkF 3 7 (e12 f6)
theorem ok12 {g6 : Env → Rc} (G : GF P w K mg) (F : FunD K "way_beside" "way_beside" (defArgs s12) (defBody s12) (defScope s12) [] [] f fd) (hm : mg "way_beside" = some (.ref f)) (d6 : Cal P w K mg base TB (CC K) 1 "next_in" ["size", "pairs"] g6) : Cal P w K mg base TB (CC K) 2 "way_beside" ["size", "pairs", "pair"] (mkF 3 7 (e12 g6)) :=
  q_def F hm sc12 (fun _ => rfl) rfl rfl (fun _ _ _ _ _ _ us hl => match us, hl with | [_, _, _], _ => rfl) fun _ _ _ _ _ _ c hp => (s_cons (q_set c (q_call d6 c (q_cons q_v (q_cons (q_lc [("other", 4)] c (r_itl q_p) (q_bk c fun _ _ _ _ _ c => (q_cn c)) (c_one (q_bk c fun _ _ _ _ _ c => (q_tcmp c q_p q_p))) (q_bk c fun _ _ _ _ _ c => q_v)) r_nil)))) (s_cons (q_par c (q_cons (q_dct1 (q_ix c q_p r_int) r_non) (q_cons (r_lst (q_cons (q_ix c q_p r_int) r_nil)) r_nil))) (s_cons (s_whl hp (q_tcmp c q_p (r_lst r_nil)) (s_cons (q_set c (q_popAt (q_cons r_int r_nil))) (s_one (s_for hp c.cm (r_itl (q_ix c q_p q_p)) (q_tn c) (s_one (s_if (q_tcmp c q_p q_p) (s_cons (q_asg (q_ts c q_v) q_v) (s_one (q_ex (q_append (q_cons q_v r_nil))))) s_nil)))))) (s_cons (s_if (q_tcmp c (q_ix c q_p r_int) q_p) (s_one (s_ret r_non)) s_nil) (s_cons (q_set c (r_lst (q_cons (q_ix c q_p r_int) r_nil))) (s_cons (s_whl hp (q_tcmp c (q_ix c q_p (q_ix c q_p (r_neg r_int))) r_non) (s_one (q_ex (q_append (q_cons (q_ix c q_p (q_ix c q_p (r_neg r_int))) r_nil))))) (s_one (s_ret (q_t ok_tuple G.b_tuple (q_cons (r_slr q_p) r_nil))))))))))
/-! bar_in -/
abbrev s13 : Stmt := top 26
theorem sc13 : FnScope ["size", "pairs", "ring", "pair", "way"] ["size", "pairs"] (defScope s13) := ⟨rfl, rfl, rfl, by decide +kernel, rfl, by decide +kernel, by decide +kernel⟩
def e13 (g8 g12 : Env → Rc) : ES := (sqK (asgK (setSlot 2) (callK g8 (consK (rdV 0) (consK (rdV 1) nilK)))) (sqK (iteK (tvK (cmpK .isnot (rdP 2) (cK .non))) (retK (tupK (consK (cK (.str [114, 105, 110, 103])) (consK (rdV 2) nilK)))) skipK) (sqK (frK [1] (setSlot 3) (itlK [1] (rdP 1)) (sqK (iteK (tvK (cmpK .gt (tcntK (rdP 1) (consK (rdV 3) nilK)) (cK (.int 1)))) (retK (tupK (consK (cK (.str [116, 119, 105, 99, 101])) (consK (rdV 3) nilK)))) skipK) (sqK (asgK (setSlot 4) (callK g12 (consK (rdV 0) (consK (rdV 1) (consK (rdV 3) nilK))))) (iteK (tvK (cmpK .isnot (rdP 4) (cK .non))) (retK (tupK (consK (cK (.str [102, 111, 108, 108, 111, 119, 115])) (consK (rdV 3) (consK (rdV 4) nilK))))) skipK)))) (retK (cK .non)))))
def f13 : Env → Rc := mkF 2 3 (e13 f8 f12)
theorem ok13 {g8 g12 : Env → Rc} (G : GF P w K mg) (F : FunD K "bar_in" "bar_in" (defArgs s13) (defBody s13) (defScope s13) [] [] f fd) (hm : mg "bar_in_orders" = some (.ref f)) (d8 : Cal P w K mg base TB (CC K) 2 "ring_in" ["size", "pairs"] g8) (d12 : Cal P w K mg base TB (CC K) 2 "way_beside" ["size", "pairs", "pair"] g12) : Cal P w K mg base TB (CC K) 3 "bar_in_orders" ["size", "pairs"] (mkF 2 3 (e13 g8 g12)) :=
  q_def F hm sc13 (fun _ => rfl) rfl rfl (fun _ _ _ _ _ _ us hl => match us, hl with | [_, _], _ => rfl) fun _ _ _ _ _ _ c hp => (s_cons (q_set c (q_call d8 c (q_cons q_v (q_cons q_v r_nil)))) (s_cons (s_if (q_tcmp c q_p r_non) (s_one (s_ret (r_tup (q_cons (q_gs G.k_RING) (q_cons q_v r_nil))))) s_nil) (s_cons (s_for hp c.cm (r_itl q_p) (q_tn c) (s_cons (s_if (q_tcmp c (q_tcnt c q_p (q_cons q_v r_nil)) r_int) (s_one (s_ret (r_tup (q_cons (q_gs G.k_TWICE) (q_cons q_v r_nil))))) s_nil) (s_cons (q_set c (q_call d12 c (q_cons q_v (q_cons q_v (q_cons q_v r_nil))))) (s_one (s_if (q_tcmp c q_p r_non) (s_one (s_ret (r_tup (q_cons (q_gs G.k_FOLLOWS) (q_cons q_v (q_cons q_v r_nil)))))) s_nil))))) (s_one (s_ret r_non)))))
/-! is_order_of -/
abbrev s14 : Stmt := top 28
theorem sc14 : FnScope ["value", "size", "covers", "pair", "one", "far"] ["value"] (defScope s14) := ⟨rfl, rfl, rfl, by decide +kernel, rfl, by decide +kernel, by decide +kernel⟩
def e14 (g1 g3 g13 : Env → Rc) : ES := (sqK (iteK (torK (ntK (tvK (isiK (rdP 0) .tuple))) (torK (tvK (cmpK .ne (bltK .len (consK (rdP 0) nilK)) (cK (.int 2)))) (ntK (tvK (callK g1 (consK (ixK (rdP 0) (cK (.int 0))) (consK (cK (.int 1)) (consK (cK (.int 16)) nilK)))))))) (retK (cK (.bl false))) skipK) (sqK (asgK (ttK 2 (tconsK (setSlot 1) (tconsK (setSlot 2) tnilK))) (rdP 0)) (sqK (iteK (torK (ntK (tvK (isiK (rdP 2) .tuple))) (ntK (tvK (bltK .all (consK (compK [3] (genK [3] [2] (setSlot 3) (itlK [2] (rdP 2)) yesK (eltK (callK g3 (consK (rdV 1) (consK (rdV 3) nilK)))))) nilK))))) (retK (cK (.bl false))) skipK) (sqK (iteK (ntK (tvK (bltK .all (consK (compK [4, 5] (genK [4, 5] [2] (ttK 2 (tconsK (setSlot 4) (tconsK (setSlot 5) tnilK))) (zpK [2] (consK (rdP 2) (consK (slK (rdP 2) (smK (cK (.int 1))) noK) nilK))) yesK (eltK (cmpK .lt (rdP 4) (rdP 5))))) nilK)))) (retK (cK (.bl false))) skipK) (retK (cmpK .is (callK g13 (consK (rdV 1) (consK (rdV 2) nilK))) (cK .non)))))))
def f14 : Env → Rc := mkF 1 5 (e14 f1 f3 f13)
theorem ok14 {g1 g3 g13 : Env → Rc} (G : GF P w K mg) (F : FunD K "is_order_of" "is_order_of" (defArgs s14) (defBody s14) (defScope s14) [] [] f fd) (hm : mg "is_order_of" = some (.ref f)) (d1 : Cal P w K mg base TB (CC K) 2 "is_within" ["value", "low", "high"] g1) (d3 : Cal P w K mg base TB (CC K) 4 "is_pair_of" ["size", "value"] g3) (d13 : Cal P w K mg base TB (CC K) 3 "bar_in_orders" ["size", "pairs"] g13) : Cal P w K mg base TB (CC K) 5 "is_order_of" ["value"] (mkF 1 5 (e14 g1 g3 g13)) :=
  q_def F hm sc14 (fun _ => rfl) rfl rfl (fun _ _ _ _ _ _ us hl => match us, hl with | [_], _ => rfl) fun _ _ _ _ _ _ c hp => (s_cons (s_if (PW.pt (r_tor (r_tnt (q_tv (q_isi G.b_isinstance G.b_tuple q_p))) (r_tor (q_tcmp c (q_b ok_len G.b_len (q_cons q_p r_nil)) r_int) (pw_or1 (r_tnt (q_tv (q_call d1 c (q_cons (q_ix c q_p r_int) (q_cons r_int (q_cons (q_gi G.k_MOST_THINGS) r_nil)))))))))) (s_one (s_ret r_bl)) s_nil) (s_cons (q_asg (q_tt c (t_cons (q_tn c) (t_cons (q_tn c) t_nil))) q_p) (s_cons (s_if (PW.pt (r_tor (r_tnt (q_tv (q_isi G.b_isinstance G.b_tuple q_p))) (pw_or1 (r_tnt (q_tv (q_b (ok_all c.cm) G.b_all (q_cons (q_lc [("pair", 3)] c (r_itl q_p) (q_bk c fun _ _ _ _ _ c => (q_cn c)) c_nil (q_bk c fun _ _ _ _ _ c => (q_call d3 c (q_cons q_v (q_cons q_v r_nil))))) r_nil))))))) (s_one (s_ret r_bl)) s_nil) (s_cons (s_if (r_tnt (q_tv (q_b (ok_all c.cm) G.b_all (q_cons (q_lc [("one", 4), ("far", 5)] c (q_zp G.b_zip (q_cons q_p (q_cons (r_sl q_p (r_sm r_int) r_no) r_nil))) (q_bk c fun _ _ _ _ _ c => (q_ct c (ct_cons (q_cn c) (ct_cons (q_cn c) ct_nil)))) c_nil (q_bk c fun _ _ _ _ _ c => (q_cmp c q_p q_p))) r_nil)))) (s_one (s_ret r_bl)) s_nil) (s_one (s_ret (q_cmp c (q_call d13 c (q_cons q_v (q_cons q_v r_nil))) r_non)))))))
/-! require_order -/
abbrev s17 : Stmt := top 31
theorem sc17 : FnScope ["orders", "order"] ["orders"] (defScope s17) := ⟨rfl, rfl, rfl, by decide +kernel, rfl, by decide +kernel, by decide +kernel⟩
def e17 (g14 : Env → Rc) : ES := (iteK (ntK (tvK (bltK .all (consK (compK [1] (genK [1] [0] (setSlot 1) (itlK [0] (rdP 0)) yesK (eltK (callK g14 (consK (rdV 1) nilK))))) nilK)))) (rseK 2 (cK .non)) skipK)
def f17 : Env → Rc := mkF 1 1 (e17 f14)
theorem ok17 {g14 : Env → Rc} (G : GF P w K mg) (F : FunD K "require_order" "require_order" (defArgs s17) (defBody s17) (defScope s17) [] [] f fd) (hm : mg "require_order" = some (.ref f)) (d14 : Cal P w K mg base TB (CC K) 5 "is_order_of" ["value"] g14) : CalV P w K mg base TB (CC K) 6 "require_order" 0 (mkF 1 1 (e17 g14)) :=
  q_defv (ps := []) F hm sc17 (fun _ => rfl) rfl (fun _ _ _ _ _ _ us rest hl => match us, rest, hl with | [], [], _ => rfl | [], _ :: _, _ => rfl) fun _ _ _ _ _ _ c hp => (s_one (s_if (r_tnt (q_tv (q_b (ok_all c.cm) G.b_all (q_cons (q_lc [("order", 1)] c (r_itl q_p) (q_bk c fun _ _ _ _ _ c => (q_cn c)) c_nil (q_bk c fun _ _ _ _ _ c => (q_call d14 c (q_cons q_v r_nil)))) r_nil)))) (s_one (q_rse G.r_InvalidOrder c)) s_nil))
/-! reach_in -/
abbrev s9 : Stmt := top 22
theorem sc9 : FnScope ["size", "pairs", "steps", "found", "thing", "seen", "waits", "far"] ["size", "pairs"] (defScope s9) := ⟨rfl, rfl, rfl, by decide +kernel, rfl, by decide +kernel, by decide +kernel⟩
def e9 (g6 : Env → Rc) : ES := (sqK (asgpK 2 (tconsK (setSlot 2) (tconsK (setSlot 3) tnilK)) (consK (callK g6 (consK (rdV 0) (consK (rdV 1) nilK))) (consK (lstK nilK) nilK))) (sqK (frK [] (setSlot 4) (rng1K (rdV 0)) (sqK (asgpK 2 (tconsK (setSlot 5) (tconsK (setSlot 6) tnilK)) (consK (dctK (consK (rdV 4) (consK (cK (.bl true)) nilK))) (consK (lstK (consK (rdV 4) nilK)) nilK))) (sqK (whlK 400 (tvK (cmpK .ne (rdP 6) (lstK nilK))) (frK [] (setSlot 7) (itlK [] (ixK (rdP 2) (mutK .pop 6 nilK))) (iteK (tvK (cmpK .notin (rdP 7) (rdP 5))) (sqK (asgK (tsK 5 (rdV 7)) (cK (.bl true))) (exK (mutK .append 6 (consK (rdV 7) nilK)))) skipK))) (exK (mutK .append 3 (consK (bltK .sorted (consK (rdP 5) nilK)) nilK)))))) (rtvK 3)))
def f9 : Env → Rc := mkF 2 6 (e9 f6)
theorem ok9 {g6 : Env → Rc} (G : GF P w K mg) (F : FunD K "reach_in" "reach_in" (defArgs s9) (defBody s9) (defScope s9) [] [] f fd) (hm : mg "reach_in" = some (.ref f)) (d6 : Cal P w K mg base TB (CC K) 1 "next_in" ["size", "pairs"] g6) : Cal P w K mg base TB (CC K) 2 "reach_in" ["size", "pairs"] (mkF 2 6 (e9 g6)) :=
  q_def F hm sc9 (fun _ => rfl) rfl rfl (fun _ _ _ _ _ _ us hl => match us, hl with | [_, _], _ => rfl) fun _ _ _ _ _ _ c hp => (s_cons (q_par c (q_cons (q_call d6 c (q_cons q_v (q_cons q_v r_nil))) (q_cons (r_lst r_nil) r_nil))) (s_cons (s_for hp c.cm (q_rng1 G.b_range q_v) (q_tn c) (s_cons (q_par c (q_cons (q_dct1 q_v r_bl) (q_cons (r_lst (q_cons q_v r_nil)) r_nil))) (s_cons (s_whl hp (q_tcmp c q_p (r_lst r_nil)) (s_one (s_for hp c.cm (r_itl (q_ix c q_p q_pop)) (q_tn c) (s_one (s_if (q_tcmp c q_p q_p) (s_cons (q_asg (q_ts c q_v) r_bl) (s_one (q_ex (q_append (q_cons q_v r_nil))))) s_nil))))) (s_one (q_ex (q_append (q_cons (q_b (ok_sorted c.cm) G.b_sorted (q_cons q_p r_nil)) r_nil))))))) (s_one q_rtv)))
/-! up_in -/
abbrev s15 : Stmt := top 29
theorem sc15 : FnScope ["order"] ["order"] (defScope s15) := ⟨rfl, rfl, rfl, by decide +kernel, rfl, by decide +kernel, by decide +kernel⟩
def e15 (g9 : Env → Rc) : ES := (retK (callK g9 (consK (ixK (rdP 0) (cK (.int 0))) (consK (ixK (rdP 0) (cK (.int 1))) nilK))))
def f15 : Env → Rc := mkF 1 0 (e15 f9)
theorem ok15 {g9 : Env → Rc} (G : GF P w K mg) (F : FunD K "up_in" "up_in" (defArgs s15) (defBody s15) (defScope s15) [] [] f fd) (hm : mg "up_in" = some (.ref f)) (d9 : Cal P w K mg base TB (CC K) 2 "reach_in" ["size", "pairs"] g9) : Cal P w K mg base TB (CC K) 3 "up_in" ["order"] (mkF 1 0 (e15 g9)) :=
  q_def F hm sc15 (fun _ => rfl) rfl rfl (fun _ _ _ _ _ _ us hl => match us, hl with | [_], _ => rfl) fun _ _ _ _ _ _ c hp => (s_one (s_ret (q_call d9 c (q_cons (q_ix c q_p r_int) (q_cons (q_ix c q_p r_int) r_nil)))))
/-! down_in -/
abbrev s16 : Stmt := top 30
theorem sc16 : FnScope ["order", "one", "far"] ["order"] (defScope s16) := ⟨rfl, rfl, rfl, by decide +kernel, rfl, by decide +kernel, by decide +kernel⟩
def e16 (g9 : Env → Rc) : ES := (retK (callK g9 (consK (ixK (rdP 0) (cK (.int 0))) (consK (compK [1, 2] (genK [1, 2] [] (ttK 2 (tconsK (setSlot 1) (tconsK (setSlot 2) tnilK))) (itlK [] (ixK (rdP 0) (cK (.int 1)))) yesK (eltK (tupK (consK (rdV 2) (consK (rdV 1) nilK)))))) nilK))))
def f16 : Env → Rc := mkF 1 2 (e16 f9)
theorem ok16 {g9 : Env → Rc} (G : GF P w K mg) (F : FunD K "down_in" "down_in" (defArgs s16) (defBody s16) (defScope s16) [] [] f fd) (hm : mg "down_in" = some (.ref f)) (d9 : Cal P w K mg base TB (CC K) 2 "reach_in" ["size", "pairs"] g9) : Cal P w K mg base TB (CC K) 3 "down_in" ["order"] (mkF 1 2 (e16 g9)) :=
  q_def F hm sc16 (fun _ => rfl) rfl rfl (fun _ _ _ _ _ _ us hl => match us, hl with | [_], _ => rfl) fun _ _ _ _ _ _ c hp => (s_one (s_ret (q_call d9 c (q_cons (q_ix c q_p r_int) (q_cons (q_lc [("one", 1), ("far", 2)] c (r_itl (q_ix c q_p r_int)) (q_bk c fun _ _ _ _ _ c => (q_ct c (ct_cons (q_cn c) (ct_cons (q_cn c) ct_nil)))) c_nil (q_bk c fun _ _ _ _ _ c => (r_tup (q_cons q_v (q_cons q_v r_nil))))) r_nil)))))
/-! least_of -/
abbrev s18 : Stmt := top 37
theorem sc18 : FnScope ["up", "things", "one", "far"] ["up", "things"] (defScope s18) := ⟨rfl, rfl, rfl, by decide +kernel, rfl, by decide +kernel, by decide +kernel⟩
def e18 : ES := (retK (compK [2] (genK [2] [1] (setSlot 2) (itlK [1] (rdP 1)) (ntK (tvK (bltK .any (consK (compK [3] (genK [3] [1] (setSlot 3) (itlK [1] (rdP 1)) (tvK (cmpK .ne (rdP 3) (rdP 2))) (eltK (cmpK .isin (rdP 2) (ixK (rdP 0) (rdP 3)))))) nilK)))) (eltK (rdV 2)))))
def f18 : Env → Rc := mkF 2 2 e18
theorem ok18 (G : GF P w K mg) (F : FunD K "least_of" "least_of" (defArgs s18) (defBody s18) (defScope s18) [] [] f fd) (hm : mg "least_of" = some (.ref f)) : Cal P w K mg base TB (CC K) 1 "least_of" ["up", "things"] (mkF 2 2 e18) :=
  q_def F hm sc18 (fun _ => rfl) rfl rfl (fun _ _ _ _ _ _ us hl => match us, hl with | [_, _], _ => rfl) fun _ _ _ _ _ _ c hp => (s_one (s_ret (q_lc [("one", 2)] c (r_itl q_p) (q_bk c fun _ _ _ _ _ c => (q_cn c)) (c_one (q_bk c fun _ _ _ _ _ c => (r_tnt (q_tv (q_b (ok_any c.cm) G.b_any (q_cons (q_lc [("far", 3)] c (r_itl q_p) (q_bk c fun _ _ _ _ _ c => (q_cn c)) (c_one (q_bk c fun _ _ _ _ _ c => (q_tcmp c q_p q_p))) (q_bk c fun _ _ _ _ _ c => (q_cmp c q_p (q_ix c q_p q_p)))) r_nil)))))) (q_bk c fun _ _ _ _ _ c => q_v))))
/-! bounds_at -/
abbrev s19 : Stmt := top 38
theorem sc19 : FnScope ["up", "one", "far", "thing"] ["up", "one", "far"] (defScope s19) := ⟨rfl, rfl, rfl, by decide +kernel, rfl, by decide +kernel, by decide +kernel⟩
def e19 (g18 : Env → Rc) : ES := (retK (callK g18 (consK (rdV 0) (consK (compK [3] (genK [3] [] (setSlot 3) (itlK [] (ixK (rdP 0) (rdP 1))) (tvK (cmpK .isin (rdP 3) (ixK (rdP 0) (rdP 2)))) (eltK (rdV 3)))) nilK))))
def f19 : Env → Rc := mkF 3 1 (e19 f18)
theorem ok19 {g18 : Env → Rc} (G : GF P w K mg) (F : FunD K "bounds_at" "bounds_at" (defArgs s19) (defBody s19) (defScope s19) [] [] f fd) (hm : mg "bounds_at" = some (.ref f)) (d18 : Cal P w K mg base TB (CC K) 1 "least_of" ["up", "things"] g18) : Cal P w K mg base TB (CC K) 2 "bounds_at" ["up", "one", "far"] (mkF 3 1 (e19 g18)) :=
  q_def F hm sc19 (fun _ => rfl) rfl rfl (fun _ _ _ _ _ _ us hl => match us, hl with | [_, _, _], _ => rfl) fun _ _ _ _ _ _ c hp => (s_one (s_ret (q_call d18 c (q_cons q_v (q_cons (q_lc [("thing", 3)] c (r_itl (q_ix c q_p q_p)) (q_bk c fun _ _ _ _ _ c => (q_cn c)) (c_one (q_bk c fun _ _ _ _ _ c => (q_tcmp c q_p (q_ix c q_p q_p)))) (q_bk c fun _ _ _ _ _ c => q_v)) r_nil)))))
/-! bar_in -/
abbrev s20 : Stmt := top 39
theorem sc20 : FnScope ["order", "up", "down", "one", "far", "word", "two", "lists", "least"] ["order"] (defScope s20) := ⟨rfl, rfl, rfl, by decide +kernel, rfl, by decide +kernel, by decide +kernel⟩
def e20 (g15 g16 g19 : Env → Rc) : ES := (sqK (asgpK 2 (tconsK (setSlot 1) (tconsK (setSlot 2) tnilK)) (consK (callK g15 (consK (rdV 0) nilK)) (consK (callK g16 (consK (rdV 0) nilK)) nilK))) (sqK (frK [] (setSlot 3) (rng1K (ixK (rdP 0) (cK (.int 0)))) (frK [] (setSlot 4) (rng2K (opK .add (rdP 3) (cK (.int 1))) (ixK (rdP 0) (cK (.int 0)))) (frK [] (ttK 3 (tconsK (setSlot 5) (tconsK (setSlot 6) (tconsK (setSlot 7) tnilK)))) (itlK [] (tupK (consK (tupK (consK (cK (.str [97, 98, 111, 118, 101])) (consK (cK (.str [116, 119, 111, 32, 97, 98, 111, 118, 101])) (consK (rdV 1) nilK)))) (consK (tupK (consK (cK (.str [98, 101, 108, 111, 119])) (consK (cK (.str [116, 119, 111, 32, 98, 101, 108, 111, 119])) (consK (rdV 2) nilK)))) nilK)))) (sqK (asgK (setSlot 8) (callK g19 (consK (rdV 7) (consK (rdV 3) (consK (rdV 4) nilK))))) (sqK (iteK (tvK (cmpK .eq (rdP 8) (lstK nilK))) (retK (tupK (consK (rdV 5) (consK (rdV 3) (consK (rdV 4) nilK))))) skipK) (iteK (tvK (cmpK .gt (bltK .len (consK (rdP 8) nilK)) (cK (.int 1)))) (retK (tupK (consK (rdV 6) (consK (rdV 3) (consK (rdV 4) (consK (ixK (rdP 8) (cK (.int 0))) (consK (ixK (rdP 8) (cK (.int 1))) nilK))))))) skipK)))))) (retK (cK .non))))
def f20 : Env → Rc := mkF 1 8 (e20 f15 f16 f19)
theorem ok20 {g15 g16 g19 : Env → Rc} (G : GF P w K mg) (F : FunD K "bar_in" "bar_in" (defArgs s20) (defBody s20) (defScope s20) [] [] f fd) (hm : mg "bar_in_halls" = some (.ref f)) (d15 : Cal P w K mg base TB (CC K) 3 "up_in" ["order"] g15) (d16 : Cal P w K mg base TB (CC K) 3 "down_in" ["order"] g16) (d19 : Cal P w K mg base TB (CC K) 2 "bounds_at" ["up", "one", "far"] g19) : Cal P w K mg base TB (CC K) 4 "bar_in_halls" ["order"] (mkF 1 8 (e20 g15 g16 g19)) :=
  q_def F hm sc20 (fun _ => rfl) rfl rfl (fun _ _ _ _ _ _ us hl => match us, hl with | [_], _ => rfl) fun _ _ _ _ _ _ c hp => (s_cons (q_par c (q_cons (q_call d15 c (q_cons q_v r_nil)) (q_cons (q_call d16 c (q_cons q_v r_nil)) r_nil))) (s_cons (s_for hp c.cm (q_rng1 G.b_range (q_ix c q_p r_int)) (q_tn c) (s_one (s_for hp c.cm (q_rng2 G.b_range (q_op q_p r_int) (q_ix c q_p r_int)) (q_tn c) (s_one (s_for hp c.cm (r_itl (r_tup (q_cons (r_tup (q_cons (q_gs G.k_ABOVE) (q_cons (q_gs G.k_TWO_ABOVE) (q_cons q_v r_nil)))) (q_cons (r_tup (q_cons (q_gs G.k_BELOW) (q_cons (q_gs G.k_TWO_BELOW) (q_cons q_v r_nil)))) r_nil)))) (q_tt c (t_cons (q_tn c) (t_cons (q_tn c) (t_cons (q_tn c) t_nil)))) (s_cons (q_set c (q_call d19 c (q_cons q_v (q_cons q_v (q_cons q_v r_nil))))) (s_cons (s_if (q_tcmp c q_p (r_lst r_nil)) (s_one (s_ret (r_tup (q_cons q_v (q_cons q_v (q_cons q_v r_nil)))))) s_nil) (s_one (s_if (q_tcmp c (q_b ok_len G.b_len (q_cons q_p r_nil)) r_int) (s_one (s_ret (r_tup (q_cons q_v (q_cons q_v (q_cons q_v (q_cons (q_ix c q_p r_int) (q_cons (q_ix c q_p r_int) r_nil)))))))) s_nil))))))))) (s_one (s_ret r_non))))
/-! is_hall_of -/
abbrev s21 : Stmt := top 41
theorem sc21 : FnScope ["value"] ["value"] (defScope s21) := ⟨rfl, rfl, rfl, by decide +kernel, rfl, by decide +kernel, by decide +kernel⟩
def e21 (g14 g20 : Env → Rc) : ES := (retK (andK (callK g14 (consK (rdV 0) nilK)) (cmpK .is (callK g20 (consK (rdV 0) nilK)) (cK .non))))
def f21 : Env → Rc := mkF 1 0 (e21 f14 f20)
theorem ok21 {g14 g20 : Env → Rc} (G : GF P w K mg) (F : FunD K "is_hall_of" "is_hall_of" (defArgs s21) (defBody s21) (defScope s21) [] [] f fd) (hm : mg "is_hall_of" = some (.ref f)) (d14 : Cal P w K mg base TB (CC K) 5 "is_order_of" ["value"] g14) (d20 : Cal P w K mg base TB (CC K) 4 "bar_in_halls" ["order"] g20) : Cal P w K mg base TB (CC K) 6 "is_hall_of" ["value"] (mkF 1 0 (e21 g14 g20)) :=
  q_def F hm sc21 (fun _ => rfl) rfl rfl (fun _ _ _ _ _ _ us hl => match us, hl with | [_], _ => rfl) fun _ _ _ _ _ _ c hp => (s_one (s_ret (r_and (q_call d14 c (q_cons q_v r_nil)) (pe_one (q_cmp c (q_call d20 c (q_cons q_v r_nil)) r_non)))))
/-! require_hall -/
abbrev s22 : Stmt := top 42
theorem sc22 : FnScope ["halls", "hall"] ["halls"] (defScope s22) := ⟨rfl, rfl, rfl, by decide +kernel, rfl, by decide +kernel, by decide +kernel⟩
def e22 (g21 : Env → Rc) : ES := (iteK (ntK (tvK (bltK .all (consK (compK [1] (genK [1] [0] (setSlot 1) (itlK [0] (rdP 0)) yesK (eltK (callK g21 (consK (rdV 1) nilK))))) nilK)))) (rseK 3 (cK .non)) skipK)
def f22 : Env → Rc := mkF 1 1 (e22 f21)
theorem ok22 {g21 : Env → Rc} (G : GF P w K mg) (F : FunD K "require_hall" "require_hall" (defArgs s22) (defBody s22) (defScope s22) [] [] f fd) (hm : mg "require_hall" = some (.ref f)) (d21 : Cal P w K mg base TB (CC K) 6 "is_hall_of" ["value"] g21) : CalV P w K mg base TB (CC K) 7 "require_hall" 0 (mkF 1 1 (e22 g21)) :=
  q_defv (ps := []) F hm sc22 (fun _ => rfl) rfl (fun _ _ _ _ _ _ us rest hl => match us, rest, hl with | [], [], _ => rfl | [], _ :: _, _ => rfl) fun _ _ _ _ _ _ c hp => (s_one (s_if (r_tnt (q_tv (q_b (ok_all c.cm) G.b_all (q_cons (q_lc [("hall", 1)] c (r_itl q_p) (q_bk c fun _ _ _ _ _ c => (q_cn c)) c_nil (q_bk c fun _ _ _ _ _ c => (q_call d21 c (q_cons q_v r_nil)))) r_nil)))) (s_one (q_rse G.r_InvalidHall c)) s_nil))
/-! unlike_pairs -/
abbrev s30 : Stmt := top 56
theorem sc30 : FnScope ["order", "hall", "row", "up", "there", "size", "pairs", "one", "far"] ["order", "hall", "row"] (defScope s30) := ⟨rfl, rfl, rfl, by decide +kernel, rfl, by decide +kernel, by decide +kernel⟩
def e30 (g15 : Env → Rc) : ES := (sqK (asgpK 2 (tconsK (setSlot 3) (tconsK (setSlot 4) tnilK)) (consK (callK g15 (consK (rdV 0) nilK)) (consK (callK g15 (consK (rdV 1) nilK)) nilK))) (sqK (asgK (setSlot 5) (ixK (rdP 0) (cK (.int 0)))) (sqK (asgK (setSlot 6) (compK [7, 8] (genK [7, 8] [] (setSlot 7) (rng1K (rdV 5)) yesK (genK [8] [] (setSlot 8) (rng1K (rdV 5)) yesK (eltK (tupK (consK (rdV 7) (consK (rdV 8) nilK)))))))) (retK (compK [7, 8] (genK [7, 8] [6] (ttK 2 (tconsK (setSlot 7) (tconsK (setSlot 8) tnilK))) (itlK [6] (rdP 6)) (tvK (cmpK .ne (cmpK .isin (rdP 8) (ixK (rdP 3) (rdP 7))) (cmpK .isin (ixK (rdP 2) (rdP 8)) (ixK (rdP 4) (ixK (rdP 2) (rdP 7)))))) (eltK (tupK (consK (rdV 7) (consK (rdV 8) nilK))))))))))
def f30 : Env → Rc := mkF 3 6 (e30 f15)
theorem ok30 {g15 : Env → Rc} (G : GF P w K mg) (F : FunD K "unlike_pairs" "unlike_pairs" (defArgs s30) (defBody s30) (defScope s30) [] [] f fd) (hm : mg "unlike_pairs" = some (.ref f)) (d15 : Cal P w K mg base TB (CC K) 3 "up_in" ["order"] g15) : Cal P w K mg base TB (CC K) 4 "unlike_pairs" ["order", "hall", "row"] (mkF 3 6 (e30 g15)) :=
  q_def F hm sc30 (fun _ => rfl) rfl rfl (fun _ _ _ _ _ _ us hl => match us, hl with | [_, _, _], _ => rfl) fun _ _ _ _ _ _ c hp => (s_cons (q_asgt c (t_cons (q_tn c) (t_cons (q_tn c) t_nil)) (q_cons (q_call d15 c (q_cons q_v r_nil)) (q_cons (q_call d15 c (q_cons q_v r_nil)) r_nil))) (s_cons (q_set c (q_ix c q_p r_int)) (s_cons (q_lc2S [("one", 7), ("far", 8)] c (q_rng1 G.b_range q_v) (q_bk c fun _ _ _ _ _ c => (q_cn c)) c_nil (q_bk c fun _ _ _ _ _ c => (q_rng1 G.b_range q_v)) (q_bk c fun _ _ _ _ _ c => (q_cn c)) c_nil (q_bk c fun _ _ _ _ _ c => (r_tup (q_cons q_v (q_cons q_v r_nil))))) (s_one (s_ret (q_lc [("one", 7), ("far", 8)] c (r_itl q_p) (q_bk c fun _ _ _ _ _ c => (q_ct c (ct_cons (q_cn c) (ct_cons (q_cn c) ct_nil)))) (c_one (q_bk c fun _ _ _ _ _ c => (q_tcmp c (q_cmp c q_p (q_ix c q_p q_p)) (q_cmp c (q_ix c q_p q_p) (q_ix c q_p (q_ix c q_p q_p)))))) (q_bk c fun _ _ _ _ _ c => (r_tup (q_cons q_v (q_cons q_v r_nil))))))))))
/-! missed_in -/
abbrev s31 : Stmt := top 57
theorem sc31 : FnScope ["lists", "back", "row", "found", "thing", "side", "some", "one", "far"] ["lists", "back", "row"] (defScope s31) := ⟨rfl, rfl, rfl, by decide +kernel, rfl, by decide +kernel, by decide +kernel⟩
def e31 : ES := (sqK (asgK (setSlot 3) (lstK nilK)) (sqK (frK [0] (ttK 2 (tconsK (setSlot 4) (tconsK (setSlot 5) tnilK))) (enmK [0] (rdP 0)) (sqK (asgK (setSlot 6) (compK [7] (genK [7] [2] (setSlot 7) (itlK [2] (rdP 2)) (tvK (cmpK .isin (rdP 7) (rdP 5))) (eltK (rdV 7))))) (iteK (tvK (cmpK .ne (compK [7] (genK [7] [] (setSlot 7) (rng1K (bltK .len (consK (rdP 1) nilK))) (tvK (bltK .all (consK (compK [8] (genK [8] [6] (setSlot 8) (itlK [6] (rdP 6)) yesK (eltK (cmpK .isin (rdP 7) (ixK (rdP 1) (rdP 8)))))) nilK))) (eltK (rdV 7)))) (ixK (rdP 1) (rdP 4)))) (exK (mutK .append 3 (consK (rdV 4) nilK))) skipK))) (rtvK 3)))
def f31 : Env → Rc := mkF 3 6 e31
theorem ok31 (G : GF P w K mg) (F : FunD K "missed_in" "missed_in" (defArgs s31) (defBody s31) (defScope s31) [] [] f fd) (hm : mg "missed_in" = some (.ref f)) : Cal P w K mg base TB (CC K) 1 "missed_in" ["lists", "back", "row"] (mkF 3 6 e31) :=
  q_def F hm sc31 (fun _ => rfl) rfl rfl (fun _ _ _ _ _ _ us hl => match us, hl with | [_, _, _], _ => rfl) fun _ _ _ _ _ _ c hp => (s_cons (q_set c (r_lst r_nil)) (s_cons (s_for hp c.cm (q_enm G.b_enumerate q_p) (q_tt c (t_cons (q_tn c) (t_cons (q_tn c) t_nil))) (s_cons (q_set c (q_lc [("one", 7)] c (r_itl q_p) (q_bk c fun _ _ _ _ _ c => (q_cn c)) (c_one (q_bk c fun _ _ _ _ _ c => (q_tcmp c q_p q_p))) (q_bk c fun _ _ _ _ _ c => q_v))) (s_one (s_if (q_tcmp c (q_lc [("one", 7)] c (q_rng1 G.b_range (q_b ok_len G.b_len (q_cons q_p r_nil))) (q_bk c fun _ _ _ _ _ c => (q_cn c)) (c_one (q_bk c fun _ _ _ _ _ c => (q_tv (q_b (ok_all c.cm) G.b_all (q_cons (q_lc [("far", 8)] c (r_itl q_p) (q_bk c fun _ _ _ _ _ c => (q_cn c)) c_nil (q_bk c fun _ _ _ _ _ c => (q_cmp c q_p (q_ix c q_p q_p)))) r_nil))))) (q_bk c fun _ _ _ _ _ c => q_v)) (q_ix c q_p q_p)) (s_one (q_ex (q_append (q_cons q_v r_nil)))) s_nil)))) (s_one q_rtv)))
/-! bars_of -/
abbrev s32 : Stmt := top 58
theorem sc32 : FnScope ["order", "hall", "row", "up", "down", "found", "one", "far", "thing"] ["order", "hall", "row"] (defScope s32) := ⟨rfl, rfl, rfl, by decide +kernel, rfl, by decide +kernel, by decide +kernel⟩
def e32 (g15 g16 g30 g31 : Env → Rc) : ES := (sqK (asgpK 2 (tconsK (setSlot 3) (tconsK (setSlot 4) tnilK)) (consK (callK g15 (consK (rdV 1) nilK)) (consK (callK g16 (consK (rdV 1) nilK)) nilK))) (sqK (asgK (setSlot 5) (compK [6, 7] (genK [6, 7] [] (ttK 2 (tconsK (setSlot 6) (tconsK (setSlot 7) tnilK))) (itlK [] (callK g30 (consK (rdV 0) (consK (rdV 1) (consK (rdV 2) nilK))))) yesK (eltK (tupK (consK (cK (.str [111, 114, 100, 101, 114])) (consK (rdV 6) (consK (rdV 7) nilK)))))))) (sqK (exK (mutK .extend 5 (consK (compK [8] (genK [8] [] (setSlot 8) (itlK [] (callK g31 (consK (rdV 4) (consK (rdV 3) (consK (rdV 2) nilK))))) yesK (eltK (tupK (consK (cK (.str [106, 111, 105, 110])) (consK (rdV 8) nilK)))))) nilK))) (sqK (exK (mutK .extend 5 (consK (compK [8] (genK [8] [] (setSlot 8) (itlK [] (callK g31 (consK (rdV 3) (consK (rdV 4) (consK (rdV 2) nilK))))) yesK (eltK (tupK (consK (cK (.str [109, 101, 101, 116])) (consK (rdV 8) nilK)))))) nilK))) (rtvK 5)))))
def f32 : Env → Rc := mkF 3 6 (e32 f15 f16 f30 f31)
theorem ok32 {g15 g16 g30 g31 : Env → Rc} (G : GF P w K mg) (F : FunD K "bars_of" "bars_of" (defArgs s32) (defBody s32) (defScope s32) [] [] f fd) (hm : mg "bars_of" = some (.ref f)) (d15 : Cal P w K mg base TB (CC K) 3 "up_in" ["order"] g15) (d16 : Cal P w K mg base TB (CC K) 3 "down_in" ["order"] g16) (d30 : Cal P w K mg base TB (CC K) 4 "unlike_pairs" ["order", "hall", "row"] g30) (d31 : Cal P w K mg base TB (CC K) 1 "missed_in" ["lists", "back", "row"] g31) : Cal P w K mg base TB (CC K) 5 "bars_of" ["order", "hall", "row"] (mkF 3 6 (e32 g15 g16 g30 g31)) :=
  q_def F hm sc32 (fun _ => rfl) rfl rfl (fun _ _ _ _ _ _ us hl => match us, hl with | [_, _, _], _ => rfl) fun _ _ _ _ _ _ c hp => (s_cons (q_par c (q_cons (q_call d15 c (q_cons q_v r_nil)) (q_cons (q_call d16 c (q_cons q_v r_nil)) r_nil))) (s_cons (q_lcS [("one", 6), ("far", 7)] c (r_itl (q_call d30 c (q_cons q_v (q_cons q_v (q_cons q_v r_nil))))) (q_bk c fun _ _ _ _ _ c => (q_ct c (ct_cons (q_cn c) (ct_cons (q_cn c) ct_nil)))) c_nil (q_bk c fun _ _ _ _ _ c => (r_tup (q_cons (q_gs G.k_ORDER) (q_cons q_v (q_cons q_v r_nil)))))) (s_cons (q_ex (q_extend (q_cons (q_lc [("thing", 8)] c (r_itl (q_call d31 c (q_cons q_v (q_cons q_v (q_cons q_v r_nil))))) (q_bk c fun _ _ _ _ _ c => (q_cn c)) c_nil (q_bk c fun _ _ _ _ _ c => (r_tup (q_cons (q_gs G.k_JOIN) (q_cons q_v r_nil))))) r_nil))) (s_cons (q_ex (q_extend (q_cons (q_lc [("thing", 8)] c (r_itl (q_call d31 c (q_cons q_v (q_cons q_v (q_cons q_v r_nil))))) (q_bk c fun _ _ _ _ _ c => (q_cn c)) c_nil (q_bk c fun _ _ _ _ _ c => (r_tup (q_cons (q_gs G.k_MEET) (q_cons q_v r_nil))))) r_nil))) (s_one q_rtv)))))
/-! require_map -/
abbrev s34 : Stmt := top 60
theorem sc34 : FnScope ["size", "goal_size", "row", "one"] ["size", "goal_size", "row"] (defScope s34) := ⟨rfl, rfl, rfl, by decide +kernel, rfl, by decide +kernel, by decide +kernel⟩
def e34 (g1 : Env → Rc) : ES := (iteK (torK (ntK (tvK (isiK (rdP 2) .tuple))) (torK (tvK (cmpK .ne (bltK .len (consK (rdP 2) nilK)) (rdP 0))) (ntK (tvK (bltK .all (consK (compK [3] (genK [3] [2] (setSlot 3) (itlK [2] (rdP 2)) yesK (eltK (callK g1 (consK (rdV 3) (consK (cK (.int 0)) (consK (opK .sub (rdP 1) (cK (.int 1))) nilK))))))) nilK)))))) (rseK 4 (cK .non)) skipK)
def f34 : Env → Rc := mkF 3 1 (e34 f1)
theorem ok34 {g1 : Env → Rc} (G : GF P w K mg) (F : FunD K "require_map" "require_map" (defArgs s34) (defBody s34) (defScope s34) [] [] f fd) (hm : mg "require_map" = some (.ref f)) (d1 : Cal P w K mg base TB (CC K) 2 "is_within" ["value", "low", "high"] g1) : Cal P w K mg base TB (CC K) 3 "require_map" ["size", "goal_size", "row"] (mkF 3 1 (e34 g1)) :=
  q_def F hm sc34 (fun _ => rfl) rfl rfl (fun _ _ _ _ _ _ us hl => match us, hl with | [_, _, _], _ => rfl) fun _ _ _ _ _ _ c hp => (s_one (s_if (PW.pt (r_tor (r_tnt (q_tv (q_isi G.b_isinstance G.b_tuple q_p))) (r_tor (q_tcmp c (q_b ok_len G.b_len (q_cons q_p r_nil)) q_p) (pw_or1 (r_tnt (q_tv (q_b (ok_all c.cm) G.b_all (q_cons (q_lc [("one", 3)] c (r_itl q_p) (q_bk c fun _ _ _ _ _ c => (q_cn c)) c_nil (q_bk c fun _ _ _ _ _ c => (q_call d1 c (q_cons q_v (q_cons r_int (q_cons (q_op q_p r_int) r_nil)))))) r_nil)))))))) (s_one (q_rse G.r_InvalidMap c)) s_nil))
/-! is_completion_paper -/
abbrev s44 : Stmt := top 70
theorem sc44 : FnScope ["order", "hall", "map_row", "value", "one", "found"] ["order", "hall", "map_row", "value"] (defScope s44) := ⟨rfl, rfl, rfl, by decide +kernel, rfl, by decide +kernel, by decide +kernel⟩
def e44 (g1 g17 g22 g32 g34 : Env → Rc) : ES := (sqK (exK (callvK g17 0 (consK (rdV 0) nilK))) (sqK (exK (callvK g22 0 (consK (rdV 1) nilK))) (sqK (exK (callK g34 (consK (ixK (rdP 0) (cK (.int 0))) (consK (ixK (rdP 1) (cK (.int 0))) (consK (rdV 2) nilK))))) (sqK (iteK (torK (ntK (tvK (isiK (rdP 3) .tuple))) (torK (tvK (cmpK .notin (bltK .len (consK (rdP 3) nilK)) (tupK (consK (cK (.int 1)) (consK (cK (.int 2)) (consK (cK (.int 3)) nilK)))))) (ntK (tvK (isiK (ixK (rdP 3) (cK (.int 0))) .str))))) (retK (cK (.bl false))) skipK) (sqK (iteK (ntK (tvK (bltK .all (consK (compK [4] (genK [4] [] (setSlot 4) (itlK [] (slK (rdP 3) (smK (cK (.int 1))) noK)) yesK (eltK (callK g1 (consK (rdV 4) (consK (cK (.int 0)) (consK (opK .sub (bltK .max2 (consK (ixK (rdP 0) (cK (.int 0))) (consK (ixK (rdP 1) (cK (.int 0))) nilK))) (cK (.int 1))) nilK))))))) nilK)))) (retK (cK (.bl false))) skipK) (sqK (asgK (setSlot 5) (callK g32 (consK (rdV 0) (consK (rdV 1) (consK (rdV 2) nilK))))) (retK (iteK (tvK (cmpK .ne (rdP 5) (lstK nilK))) (cmpK .isin (rdP 3) (rdP 5)) (cmpK .eq (rdP 3) (tupK (consK (cK (.str [99, 111, 109, 112, 108, 101, 116, 105, 111, 110])) nilK)))))))))))
def f44 : Env → Rc := mkF 4 2 (e44 f1 f17 f22 f32 f34)
theorem ok44 {g1 g17 g22 g32 g34 : Env → Rc} (G : GF P w K mg) (F : FunD K "is_completion_paper" "is_completion_paper" (defArgs s44) (defBody s44) (defScope s44) [] [] f fd) (hm : mg "is_completion_paper" = some (.ref f)) (d1 : Cal P w K mg base TB (CC K) 2 "is_within" ["value", "low", "high"] g1) (d17 : CalV P w K mg base TB (CC K) 6 "require_order" 0 g17) (d22 : CalV P w K mg base TB (CC K) 7 "require_hall" 0 g22) (d32 : Cal P w K mg base TB (CC K) 5 "bars_of" ["order", "hall", "row"] g32) (d34 : Cal P w K mg base TB (CC K) 3 "require_map" ["size", "goal_size", "row"] g34) : Cal P w K mg base TB (CC K) 8 "is_completion_paper" ["order", "hall", "map_row", "value"] (mkF 4 2 (e44 g1 g17 g22 g32 g34)) :=
  q_def F hm sc44 (fun _ => rfl) rfl rfl (fun _ _ _ _ _ _ us hl => match us, hl with | [_, _, _, _], _ => rfl) fun _ _ _ _ _ _ c hp => (s_cons (q_ex (q_callv d17 c (q_cons q_v r_nil))) (s_cons (q_ex (q_callv d22 c (q_cons q_v r_nil))) (s_cons (q_ex (q_call d34 c (q_cons (q_ix c q_p r_int) (q_cons (q_ix c q_p r_int) (q_cons q_v r_nil))))) (s_cons (s_if (PW.pt (r_tor (r_tnt (q_tv (q_isi G.b_isinstance G.b_tuple q_p))) (r_tor (q_tcmp c (q_b ok_len G.b_len (q_cons q_p r_nil)) (r_tup (q_cons r_int (q_cons r_int (q_cons r_int r_nil))))) (pw_or1 (r_tnt (q_tv (q_isi G.b_isinstance G.b_str (q_ix c q_p r_int)))))))) (s_one (s_ret r_bl)) s_nil) (s_cons (s_if (r_tnt (q_tv (q_b (ok_all c.cm) G.b_all (q_cons (q_lc [("one", 4)] c (r_itl (r_sl q_p (r_sm r_int) r_no)) (q_bk c fun _ _ _ _ _ c => (q_cn c)) c_nil (q_bk c fun _ _ _ _ _ c => (q_call d1 c (q_cons q_v (q_cons r_int (q_cons (q_op (q_b (ok_max2 c.cm) G.b_max (q_cons (q_ix c q_p r_int) (q_cons (q_ix c q_p r_int) r_nil))) r_int) r_nil)))))) r_nil)))) (s_one (s_ret r_bl)) s_nil) (s_cons (q_set c (q_call d32 c (q_cons q_v (q_cons q_v (q_cons q_v r_nil))))) (s_one (s_ret (r_ite (q_tcmp c q_p (r_lst r_nil)) (q_cmp c q_p q_p) (q_cmp c q_p (r_tup (q_cons (q_gs G.k_COMPLETION) r_nil))))))))))))
/-! _law_bag -/
abbrev s46 : Stmt := top 73
theorem sc46 : FnScope ["script", "spot", "cell", "great", "blend"] ["script", "spot"] (defScope s46) := ⟨rfl, rfl, rfl, by decide +kernel, rfl, by decide +kernel, by decide +kernel⟩
def e46 : ES := (sqK (asgK (setSlot 2) (iteK (tvK (cmpK .lt (rdP 1) (bltK .len (consK (rdP 0) nilK)))) (bltK .int (consK (ixK (rdP 0) (rdP 1)) nilK)) (opK .add (opK .mul (cK (.int 89)) (rdP 1)) (cK (.int 41))))) (sqK (asgK (setSlot 3) (opK .mod (bltK .max2 (consK (cK (.int 0)) (consK (opK .sub (bltK .abs (consK (rdP 2) nilK)) (opK .pow (cK (.int 10)) (cK (.int 18)))) nilK))) (opK .mul (opK .pow (cK (.int 10)) (cK (.int 60))) (opK .pow (cK (.int 10)) (cK (.int 60)))))) (sqK (asgK (setSlot 4) (opK .add (opK .add (opK .add (opK .mul (opK .mod (bltK .int (consK (bltK .abs (consK (rdP 2) nilK)) nilK)) (opK .add (opK .pow (cK (.int 10)) (cK (.int 12))) (cK (.int 39)))) (cK (.int 10007))) (opK .mul (cK (.int 509)) (rdP 1))) (opK .mul (cK (.int 17)) (bltK .int (consK (cmpK .lt (rdP 2) (cK (.int 0))) nilK)))) (cK (.int 1)))) (retK (lstK (consK (rdV 3) (consK (opK .mod (bltK .int (consK (rdP 4) nilK)) (opK .sub (opK .pow (cK (.int 2)) (cK (.int 61))) (cK (.int 1)))) nilK)))))))
def f46 : Env → Rc := mkF 2 3 e46
theorem ok46 (G : GF P w K mg) (F : FunD K "_law_bag" "_law_bag" (defArgs s46) (defBody s46) (defScope s46) [] [] f fd) (hm : mg "_law_bag" = some (.ref f)) : Cal P w K mg base TB (CC K) 1 "_law_bag" ["script", "spot"] (mkF 2 3 e46) :=
  q_def F hm sc46 (fun _ => rfl) rfl rfl (fun _ _ _ _ _ _ us hl => match us, hl with | [_, _], _ => rfl) fun _ _ _ _ _ _ c hp => (s_cons (q_set c (r_ite (q_tcmp c q_p (q_b ok_len G.b_len (q_cons q_p r_nil))) (q_t ok_int G.b_int (q_cons (q_ix c q_p q_p) r_nil)) (q_op (q_op r_int q_p) r_int))) (s_cons (q_set c (q_op (q_b (ok_max2 c.cm) G.b_max (q_cons r_int (q_cons (q_op (q_b ok_abs G.b_abs (q_cons q_p r_nil)) (q_op r_int r_int)) r_nil))) (q_op (q_op r_int r_int) (q_op r_int r_int)))) (s_cons (q_set c (q_op (q_op (q_op (q_op (q_op (q_t ok_int G.b_int (q_cons (q_b ok_abs G.b_abs (q_cons q_p r_nil)) r_nil)) (q_op (q_op r_int r_int) r_int)) r_int) (q_op r_int q_p)) (q_op r_int (q_t ok_int G.b_int (q_cons (q_cmp c q_p r_int) r_nil)))) r_int)) (s_one (s_ret (r_lst (q_cons q_v (q_cons (q_op (q_t ok_int G.b_int (q_cons q_p r_nil)) (q_op (q_op r_int r_int) r_int)) r_nil))))))))
/-! common_of -/
abbrev s23 : Stmt := top 49
theorem sc23 : FnScope ["lists", "lot", "size", "thing", "one"] ["lists", "lot", "size"] (defScope s23) := ⟨rfl, rfl, rfl, by decide +kernel, rfl, by decide +kernel, by decide +kernel⟩
def e23 : ES := (retK (compK [3] (genK [3] [] (setSlot 3) (rng1K (rdV 2)) (tvK (bltK .all (consK (compK [4] (genK [4] [1] (setSlot 4) (itlK [1] (rdP 1)) yesK (eltK (cmpK .isin (rdP 3) (ixK (rdP 0) (rdP 4)))))) nilK))) (eltK (rdV 3)))))
def f23 : Env → Rc := mkF 3 2 e23
theorem ok23 (G : GF P w K mg) (F : FunD K "common_of" "common_of" (defArgs s23) (defBody s23) (defScope s23) [] [] f fd) (hm : mg "common_of" = some (.ref f)) : Cal P w K mg base TB (CC K) 1 "common_of" ["lists", "lot", "size"] (mkF 3 2 e23) :=
  q_def F hm sc23 (fun _ => rfl) rfl rfl (fun _ _ _ _ _ _ us hl => match us, hl with | [_, _, _], _ => rfl) fun _ _ _ _ _ _ c hp => (s_one (s_ret (q_lc [("thing", 3)] c (q_rng1 G.b_range q_v) (q_bk c fun _ _ _ _ _ c => (q_cn c)) (c_one (q_bk c fun _ _ _ _ _ c => (q_tv (q_b (ok_all c.cm) G.b_all (q_cons (q_lc [("one", 4)] c (r_itl q_p) (q_bk c fun _ _ _ _ _ c => (q_cn c)) c_nil (q_bk c fun _ _ _ _ _ c => (q_cmp c q_p (q_ix c q_p q_p)))) r_nil))))) (q_bk c fun _ _ _ _ _ c => q_v))))
/-! upper_in_all -/
abbrev s24 : Stmt := top 50
theorem sc24 : FnScope ["order", "lot"] ["order", "lot"] (defScope s24) := ⟨rfl, rfl, rfl, by decide +kernel, rfl, by decide +kernel, by decide +kernel⟩
def e24 (g15 g23 : Env → Rc) : ES := (retK (callK g23 (consK (callK g15 (consK (rdV 0) nilK)) (consK (rdV 1) (consK (ixK (rdP 0) (cK (.int 0))) nilK)))))
def f24 : Env → Rc := mkF 2 0 (e24 f15 f23)
theorem ok24 {g15 g23 : Env → Rc} (G : GF P w K mg) (F : FunD K "upper_in_all" "upper_in_all" (defArgs s24) (defBody s24) (defScope s24) [] [] f fd) (hm : mg "upper_in_all" = some (.ref f)) (d15 : Cal P w K mg base TB (CC K) 3 "up_in" ["order"] g15) (d23 : Cal P w K mg base TB (CC K) 1 "common_of" ["lists", "lot", "size"] g23) : Cal P w K mg base TB (CC K) 4 "upper_in_all" ["order", "lot"] (mkF 2 0 (e24 g15 g23)) :=
  q_def F hm sc24 (fun _ => rfl) rfl rfl (fun _ _ _ _ _ _ us hl => match us, hl with | [_, _], _ => rfl) fun _ _ _ _ _ _ c hp => (s_one (s_ret (q_call d23 c (q_cons (q_call d15 c (q_cons q_v r_nil)) (q_cons q_v (q_cons (q_ix c q_p r_int) r_nil))))))
/-! lower_in_all -/
abbrev s25 : Stmt := top 51
theorem sc25 : FnScope ["order", "lot"] ["order", "lot"] (defScope s25) := ⟨rfl, rfl, rfl, by decide +kernel, rfl, by decide +kernel, by decide +kernel⟩
def e25 (g16 g23 : Env → Rc) : ES := (retK (callK g23 (consK (callK g16 (consK (rdV 0) nilK)) (consK (rdV 1) (consK (ixK (rdP 0) (cK (.int 0))) nilK)))))
def f25 : Env → Rc := mkF 2 0 (e25 f16 f23)
theorem ok25 {g16 g23 : Env → Rc} (G : GF P w K mg) (F : FunD K "lower_in_all" "lower_in_all" (defArgs s25) (defBody s25) (defScope s25) [] [] f fd) (hm : mg "lower_in_all" = some (.ref f)) (d16 : Cal P w K mg base TB (CC K) 3 "down_in" ["order"] g16) (d23 : Cal P w K mg base TB (CC K) 1 "common_of" ["lists", "lot", "size"] g23) : Cal P w K mg base TB (CC K) 4 "lower_in_all" ["order", "lot"] (mkF 2 0 (e25 g16 g23)) :=
  q_def F hm sc25 (fun _ => rfl) rfl rfl (fun _ _ _ _ _ _ us hl => match us, hl with | [_, _], _ => rfl) fun _ _ _ _ _ _ c hp => (s_one (s_ret (q_call d23 c (q_cons (q_call d16 c (q_cons q_v r_nil)) (q_cons q_v (q_cons (q_ix c q_p r_int) r_nil))))))
/-! around_in -/
abbrev s26 : Stmt := top 52
theorem sc26 : FnScope ["order", "lot"] ["order", "lot"] (defScope s26) := ⟨rfl, rfl, rfl, by decide +kernel, rfl, by decide +kernel, by decide +kernel⟩
def e26 (g24 g25 : Env → Rc) : ES := (retK (bltK .tuple (consK (callK g25 (consK (rdV 0) (consK (callK g24 (consK (rdV 0) (consK (rdV 1) nilK))) nilK))) nilK)))
def f26 : Env → Rc := mkF 2 0 (e26 f24 f25)
theorem ok26 {g24 g25 : Env → Rc} (G : GF P w K mg) (F : FunD K "around_in" "around_in" (defArgs s26) (defBody s26) (defScope s26) [] [] f fd) (hm : mg "around_in" = some (.ref f)) (d24 : Cal P w K mg base TB (CC K) 4 "upper_in_all" ["order", "lot"] g24) (d25 : Cal P w K mg base TB (CC K) 4 "lower_in_all" ["order", "lot"] g25) : Cal P w K mg base TB (CC K) 5 "around_in" ["order", "lot"] (mkF 2 0 (e26 g24 g25)) :=
  q_def F hm sc26 (fun _ => rfl) rfl rfl (fun _ _ _ _ _ _ us hl => match us, hl with | [_, _], _ => rfl) fun _ _ _ _ _ _ c hp => (s_one (s_ret (q_t ok_tuple G.b_tuple (q_cons (q_call d25 c (q_cons q_v (q_cons (q_call d24 c (q_cons q_v (q_cons q_v r_nil))) r_nil))) r_nil))))
/-! are_within -/
abbrev s4 : Stmt := top 12
theorem sc4 : FnScope ["value", "size", "one", "far"] ["value", "size"] (defScope s4) := ⟨rfl, rfl, rfl, by decide +kernel, rfl, by decide +kernel, by decide +kernel⟩
def e4 (g2 : Env → Rc) : ES := (sqK (iteK (torK (ntK (tvK (isiK (rdP 0) .tuple))) (ntK (tvK (bltK .all (consK (compK [2] (genK [2] [0] (setSlot 2) (itlK [0] (rdP 0)) yesK (eltK (callK g2 (consK (rdV 1) (consK (rdV 2) nilK)))))) nilK))))) (retK (cK (.bl false))) skipK) (retK (bltK .all (consK (compK [2, 3] (genK [2, 3] [0] (ttK 2 (tconsK (setSlot 2) (tconsK (setSlot 3) tnilK))) (zpK [0] (consK (rdP 0) (consK (slK (rdP 0) (smK (cK (.int 1))) noK) nilK))) yesK (eltK (cmpK .lt (rdP 2) (rdP 3))))) nilK))))
def f4 : Env → Rc := mkF 2 2 (e4 f2)
theorem ok4 {g2 : Env → Rc} (G : GF P w K mg) (F : FunD K "are_within" "are_within" (defArgs s4) (defBody s4) (defScope s4) [] [] f fd) (hm : mg "are_within" = some (.ref f)) (d2 : Cal P w K mg base TB (CC K) 3 "is_thing_of" ["size", "value"] g2) : Cal P w K mg base TB (CC K) 4 "are_within" ["value", "size"] (mkF 2 2 (e4 g2)) :=
  q_def F hm sc4 (fun _ => rfl) rfl rfl (fun _ _ _ _ _ _ us hl => match us, hl with | [_, _], _ => rfl) fun _ _ _ _ _ _ c hp => (s_cons (s_if (PW.pt (r_tor (r_tnt (q_tv (q_isi G.b_isinstance G.b_tuple q_p))) (pw_or1 (r_tnt (q_tv (q_b (ok_all c.cm) G.b_all (q_cons (q_lc [("one", 2)] c (r_itl q_p) (q_bk c fun _ _ _ _ _ c => (q_cn c)) c_nil (q_bk c fun _ _ _ _ _ c => (q_call d2 c (q_cons q_v (q_cons q_v r_nil))))) r_nil))))))) (s_one (s_ret r_bl)) s_nil) (s_one (s_ret (q_b (ok_all c.cm) G.b_all (q_cons (q_lc [("one", 2), ("far", 3)] c (q_zp G.b_zip (q_cons q_p (q_cons (r_sl q_p (r_sm r_int) r_no) r_nil))) (q_bk c fun _ _ _ _ _ c => (q_ct c (ct_cons (q_cn c) (ct_cons (q_cn c) ct_nil)))) c_nil (q_bk c fun _ _ _ _ _ c => (q_cmp c q_p q_p))) r_nil)))))
/-! require_lot -/
abbrev s5 : Stmt := top 13
theorem sc5 : FnScope ["size", "lots", "lot"] ["size", "lots"] (defScope s5) := ⟨rfl, rfl, rfl, by decide +kernel, rfl, by decide +kernel, by decide +kernel⟩
def e5 (g4 : Env → Rc) : ES := (iteK (ntK (tvK (bltK .all (consK (compK [2] (genK [2] [1] (setSlot 2) (itlK [1] (rdP 1)) yesK (eltK (callK g4 (consK (rdV 2) (consK (rdV 0) nilK)))))) nilK)))) (rseK 5 (cK .non)) skipK)
def f5 : Env → Rc := mkF 2 1 (e5 f4)
theorem ok5 {g4 : Env → Rc} (G : GF P w K mg) (F : FunD K "require_lot" "require_lot" (defArgs s5) (defBody s5) (defScope s5) [] [] f fd) (hm : mg "require_lot" = some (.ref f)) (d4 : Cal P w K mg base TB (CC K) 4 "are_within" ["value", "size"] g4) : CalV P w K mg base TB (CC K) 5 "require_lot" 1 (mkF 2 1 (e5 g4)) :=
  q_defv (ps := ["size"]) F hm sc5 (fun _ => rfl) rfl (fun _ _ _ _ _ _ us rest hl => match us, rest, hl with | [_], [], _ => rfl | [_], _ :: _, _ => rfl) fun _ _ _ _ _ _ c hp => (s_one (s_if (r_tnt (q_tv (q_b (ok_all c.cm) G.b_all (q_cons (q_lc [("lot", 2)] c (r_itl q_p) (q_bk c fun _ _ _ _ _ c => (q_cn c)) c_nil (q_bk c fun _ _ _ _ _ c => (q_call d4 c (q_cons q_v (q_cons q_v r_nil))))) r_nil)))) (s_one (q_rse G.r_InvalidLot c)) s_nil))
/-! require_order_lot -/
abbrev s33 : Stmt := top 59
theorem sc33 : FnScope ["order", "lot"] ["order", "lot"] (defScope s33) := ⟨rfl, rfl, rfl, by decide +kernel, rfl, by decide +kernel, by decide +kernel⟩
def e33 (g5 g17 : Env → Rc) : ES := (sqK (exK (callvK g17 0 (consK (rdV 0) nilK))) (exK (callvK g5 1 (consK (ixK (rdP 0) (cK (.int 0))) (consK (rdV 1) nilK)))))
def f33 : Env → Rc := mkF 2 0 (e33 f5 f17)
theorem ok33 {g5 g17 : Env → Rc} (G : GF P w K mg) (F : FunD K "require_order_lot" "require_order_lot" (defArgs s33) (defBody s33) (defScope s33) [] [] f fd) (hm : mg "require_order_lot" = some (.ref f)) (d5 : CalV P w K mg base TB (CC K) 5 "require_lot" 1 g5) (d17 : CalV P w K mg base TB (CC K) 6 "require_order" 0 g17) : Cal P w K mg base TB (CC K) 7 "require_order_lot" ["order", "lot"] (mkF 2 0 (e33 g5 g17)) :=
  q_def F hm sc33 (fun _ => rfl) rfl rfl (fun _ _ _ _ _ _ us hl => match us, hl with | [_, _], _ => rfl) fun _ _ _ _ _ _ c hp => (s_cons (q_ex (q_callv d17 c (q_cons q_v r_nil))) (s_one (q_ex (q_callv d5 c (q_cons (q_ix c q_p r_int) (q_cons q_v r_nil))))))
/-! is_cut -/
abbrev s35 : Stmt := top 61
theorem sc35 : FnScope ["order", "lot"] ["order", "lot"] (defScope s35) := ⟨rfl, rfl, rfl, by decide +kernel, rfl, by decide +kernel, by decide +kernel⟩
def e35 (g26 g33 : Env → Rc) : ES := (sqK (exK (callK g33 (consK (rdV 0) (consK (rdV 1) nilK)))) (retK (cmpK .eq (callK g26 (consK (rdV 0) (consK (rdV 1) nilK))) (rdP 1))))
def f35 : Env → Rc := mkF 2 0 (e35 f26 f33)
theorem ok35 {g26 g33 : Env → Rc} (G : GF P w K mg) (F : FunD K "is_cut" "is_cut" (defArgs s35) (defBody s35) (defScope s35) [] [] f fd) (hm : mg "is_cut" = some (.ref f)) (d26 : Cal P w K mg base TB (CC K) 5 "around_in" ["order", "lot"] g26) (d33 : Cal P w K mg base TB (CC K) 7 "require_order_lot" ["order", "lot"] g33) : Cal P w K mg base TB (CC K) 8 "is_cut" ["order", "lot"] (mkF 2 0 (e35 g26 g33)) :=
  q_def F hm sc35 (fun _ => rfl) rfl rfl (fun _ _ _ _ _ _ us hl => match us, hl with | [_, _], _ => rfl) fun _ _ _ _ _ _ c hp => (s_cons (q_ex (q_call d33 c (q_cons q_v (q_cons q_v r_nil)))) (s_one (s_ret (q_cmp c (q_call d26 c (q_cons q_v (q_cons q_v r_nil))) q_p))))
/-! cut_around -/
abbrev s36 : Stmt := top 62
theorem sc36 : FnScope ["order", "lot"] ["order", "lot"] (defScope s36) := ⟨rfl, rfl, rfl, by decide +kernel, rfl, by decide +kernel, by decide +kernel⟩
def e36 (g26 g33 : Env → Rc) : ES := (sqK (exK (callK g33 (consK (rdV 0) (consK (rdV 1) nilK)))) (retK (callK g26 (consK (rdV 0) (consK (rdV 1) nilK)))))
def f36 : Env → Rc := mkF 2 0 (e36 f26 f33)
theorem ok36 {g26 g33 : Env → Rc} (G : GF P w K mg) (F : FunD K "cut_around" "cut_around" (defArgs s36) (defBody s36) (defScope s36) [] [] f fd) (hm : mg "cut_around" = some (.ref f)) (d26 : Cal P w K mg base TB (CC K) 5 "around_in" ["order", "lot"] g26) (d33 : Cal P w K mg base TB (CC K) 7 "require_order_lot" ["order", "lot"] g33) : Cal P w K mg base TB (CC K) 8 "cut_around" ["order", "lot"] (mkF 2 0 (e36 g26 g33)) :=
  q_def F hm sc36 (fun _ => rfl) rfl rfl (fun _ _ _ _ _ _ us hl => match us, hl with | [_, _], _ => rfl) fun _ _ _ _ _ _ c hp => (s_cons (q_ex (q_call d33 c (q_cons q_v (q_cons q_v r_nil)))) (s_one (s_ret (q_call d26 c (q_cons q_v (q_cons q_v r_nil))))))
/-! upper_lot -/
abbrev s37 : Stmt := top 63
theorem sc37 : FnScope ["order", "lot"] ["order", "lot"] (defScope s37) := ⟨rfl, rfl, rfl, by decide +kernel, rfl, by decide +kernel, by decide +kernel⟩
def e37 (g24 g33 : Env → Rc) : ES := (sqK (exK (callK g33 (consK (rdV 0) (consK (rdV 1) nilK)))) (retK (bltK .tuple (consK (callK g24 (consK (rdV 0) (consK (rdV 1) nilK))) nilK))))
def f37 : Env → Rc := mkF 2 0 (e37 f24 f33)
theorem ok37 {g24 g33 : Env → Rc} (G : GF P w K mg) (F : FunD K "upper_lot" "upper_lot" (defArgs s37) (defBody s37) (defScope s37) [] [] f fd) (hm : mg "upper_lot" = some (.ref f)) (d24 : Cal P w K mg base TB (CC K) 4 "upper_in_all" ["order", "lot"] g24) (d33 : Cal P w K mg base TB (CC K) 7 "require_order_lot" ["order", "lot"] g33) : Cal P w K mg base TB (CC K) 8 "upper_lot" ["order", "lot"] (mkF 2 0 (e37 g24 g33)) :=
  q_def F hm sc37 (fun _ => rfl) rfl rfl (fun _ _ _ _ _ _ us hl => match us, hl with | [_, _], _ => rfl) fun _ _ _ _ _ _ c hp => (s_cons (q_ex (q_call d33 c (q_cons q_v (q_cons q_v r_nil)))) (s_one (s_ret (q_t ok_tuple G.b_tuple (q_cons (q_call d24 c (q_cons q_v (q_cons q_v r_nil))) r_nil)))))
/-! lower_lot -/
abbrev s38 : Stmt := top 64
theorem sc38 : FnScope ["order", "lot"] ["order", "lot"] (defScope s38) := ⟨rfl, rfl, rfl, by decide +kernel, rfl, by decide +kernel, by decide +kernel⟩
def e38 (g25 g33 : Env → Rc) : ES := (sqK (exK (callK g33 (consK (rdV 0) (consK (rdV 1) nilK)))) (retK (bltK .tuple (consK (callK g25 (consK (rdV 0) (consK (rdV 1) nilK))) nilK))))
def f38 : Env → Rc := mkF 2 0 (e38 f25 f33)
theorem ok38 {g25 g33 : Env → Rc} (G : GF P w K mg) (F : FunD K "lower_lot" "lower_lot" (defArgs s38) (defBody s38) (defScope s38) [] [] f fd) (hm : mg "lower_lot" = some (.ref f)) (d25 : Cal P w K mg base TB (CC K) 4 "lower_in_all" ["order", "lot"] g25) (d33 : Cal P w K mg base TB (CC K) 7 "require_order_lot" ["order", "lot"] g33) : Cal P w K mg base TB (CC K) 8 "lower_lot" ["order", "lot"] (mkF 2 0 (e38 g25 g33)) :=
  q_def F hm sc38 (fun _ => rfl) rfl rfl (fun _ _ _ _ _ _ us hl => match us, hl with | [_, _], _ => rfl) fun _ _ _ _ _ _ c hp => (s_cons (q_ex (q_call d33 c (q_cons q_v (q_cons q_v r_nil)))) (s_one (s_ret (q_t ok_tuple G.b_tuple (q_cons (q_call d25 c (q_cons q_v (q_cons q_v r_nil))) r_nil)))))
/-! cuts_in -/
abbrev s27 : Stmt := top 53
theorem sc27 : FnScope ["order", "found", "place", "lot", "thing", "many"] ["order"] (defScope s27) := ⟨rfl, rfl, rfl, by decide +kernel, rfl, by decide +kernel, by decide +kernel⟩
def e27 (g16 : Env → Rc) : ES := (sqK (asgK (setSlot 1) (dttK (ixK (rdP 0) (cK (.int 0))))) (sqK (frK [] (setSlot 2) (itlK [] (callK g16 (consK (rdV 0) nilK))) (frK [] (setSlot 3) (itlK [] (bltK .list (consK (rdP 1) nilK))) (sqK (asgK (tsTK 1 (compK [4] (genK [4] [3] (setSlot 4) (itlK [3] (rdP 3)) (tvK (cmpK .isin (rdP 4) (rdP 2))) (eltK (rdV 4))))) (cK (.bl true))) (iteK (tvK (cmpK .gt (bltK .len (consK (rdP 1) nilK)) (cK (.int 16)))) (rseK 6 (cK (.int 16))) skipK)))) (retK (compK [5, 3] (genK [5, 3] [] (ttK 2 (tconsK (setSlot 5) (tconsK (setSlot 3) tnilK))) (itlK [] (sortDK (consK (lockTK 1 fun kvs => compK [3] (genK [3] [] (setSlot 3) (itsK kvs) yesK (eltK (tupK (consK (bltK .len (consK (rdP 3) nilK)) (consK (rdV 3) nilK)))))) nilK))) yesK (eltK (rdV 3)))))))
def f27 : Env → Rc := mkF 1 5 (e27 f16)
theorem ok27 {g16 : Env → Rc} (G : GF P w K mg) (F : FunD K "cuts_in" "cuts_in" (defArgs s27) (defBody s27) (defScope s27) [] [] f fd) (hm : mg "cuts_in" = some (.ref f)) (d16 : Cal P w K mg base TB (CC K) 3 "down_in" ["order"] g16) : Cal P w K mg base TB (CC K) 4 "cuts_in" ["order"] (mkF 1 5 (e27 g16)) :=
  q_def F hm sc27 (fun _ => rfl) rfl rfl (fun _ _ _ _ _ _ us hl => match us, hl with | [_], _ => rfl) fun _ _ _ _ _ _ c hp => (s_cons (q_set c (q_dttd c G.b_tuple G.b_range (q_ix c q_p r_int))) (s_cons (s_for hp c.cm (r_itl (q_call d16 c (q_cons q_v r_nil))) (q_tn c) (s_one (s_for hp c.cm (r_itl (q_t (ok_list c.cm) G.b_list (q_cons q_p r_nil))) (q_tn c) (s_cons (q_asg (q_tsT c G.b_tuple (q_lc [("thing", 4)] c (r_itl q_p) (q_bk c fun _ _ _ _ _ c => (q_cn c)) (c_one (q_bk c fun _ _ _ _ _ c => (q_tcmp c q_p q_p))) (q_bk c fun _ _ _ _ _ c => q_v))) r_bl) (s_one (s_if (q_tcmp c (q_b ok_len G.b_len (q_cons q_p r_nil)) (q_gi G.k_MOST_CUT)) (s_one (q_rsef G.r_TooMany c (q_gi G.k_MOST_CUT))) s_nil)))))) (s_one (s_ret (q_lc [("many", 5), ("lot", 3)] c (r_itl (q_sortD c G.b_sorted (q_cons (q_lckT [("lot", 3)] c (q_bk c fun _ _ _ _ _ c => (q_cn c)) c_nil (q_bk c fun _ _ _ _ _ c => (r_tup (q_cons (q_b ok_len G.b_len (q_cons q_p r_nil)) (q_cons q_v r_nil))))) r_nil))) (q_bk c fun _ _ _ _ _ c => (q_ct c (ct_cons (q_cn c) (ct_cons (q_cn c) ct_nil)))) c_nil (q_bk c fun _ _ _ _ _ c => q_v))))))
/-! cuts -/
abbrev s39 : Stmt := top 65
theorem sc39 : FnScope ["order"] ["order"] (defScope s39) := ⟨rfl, rfl, rfl, by decide +kernel, rfl, by decide +kernel, by decide +kernel⟩
def e39 (g17 g27 : Env → Rc) : ES := (sqK (exK (callvK g17 0 (consK (rdV 0) nilK))) (retK (bltK .tuple (consK (callK g27 (consK (rdV 0) nilK)) nilK))))
def f39 : Env → Rc := mkF 1 0 (e39 f17 f27)
theorem ok39 {g17 g27 : Env → Rc} (G : GF P w K mg) (F : FunD K "cuts" "cuts" (defArgs s39) (defBody s39) (defScope s39) [] [] f fd) (hm : mg "cuts" = some (.ref f)) (d17 : CalV P w K mg base TB (CC K) 6 "require_order" 0 g17) (d27 : Cal P w K mg base TB (CC K) 4 "cuts_in" ["order"] g27) : Cal P w K mg base TB (CC K) 7 "cuts" ["order"] (mkF 1 0 (e39 g17 g27)) :=
  q_def F hm sc39 (fun _ => rfl) rfl rfl (fun _ _ _ _ _ _ us hl => match us, hl with | [_], _ => rfl) fun _ _ _ _ _ _ c hp => (s_cons (q_ex (q_callv d17 c (q_cons q_v r_nil))) (s_one (s_ret (q_t ok_tuple G.b_tuple (q_cons (q_call d27 c (q_cons q_v r_nil)) r_nil)))))
/-! covers_from -/
abbrev s10 : Stmt := top 23
theorem sc10 : FnScope ["up", "found", "one", "line", "far", "between"] ["up"] (defScope s10) := ⟨rfl, rfl, rfl, by decide +kernel, rfl, by decide +kernel, by decide +kernel⟩
def e10 : ES := (sqK (asgK (setSlot 1) (lstK nilK)) (sqK (frK [0] (ttK 2 (tconsK (setSlot 2) (tconsK (setSlot 3) tnilK))) (enmK [0] (rdP 0)) (frK [3] (setSlot 4) (itlK [3] (rdP 3)) (iteK (tandK (tvK (cmpK .ne (rdP 4) (rdP 2))) (ntK (tvK (bltK .any (consK (compK [5] (genK [5] [3] (setSlot 5) (itlK [3] (rdP 3)) (tvK (cmpK .notin (rdP 5) (tupK (consK (rdV 2) (consK (rdV 4) nilK))))) (eltK (cmpK .isin (rdP 4) (ixK (rdP 0) (rdP 5)))))) nilK))))) (exK (mutK .append 1 (consK (tupK (consK (rdV 2) (consK (rdV 4) nilK))) nilK))) skipK))) (retK (bltK .tuple (consK (bltK .sorted (consK (rdP 1) nilK)) nilK)))))
def f10 : Env → Rc := mkF 1 5 e10
theorem ok10 (G : GF P w K mg) (F : FunD K "covers_from" "covers_from" (defArgs s10) (defBody s10) (defScope s10) [] [] f fd) (hm : mg "covers_from" = some (.ref f)) : Cal P w K mg base TB (CC K) 1 "covers_from" ["up"] (mkF 1 5 e10) :=
  q_def F hm sc10 (fun _ => rfl) rfl rfl (fun _ _ _ _ _ _ us hl => match us, hl with | [_], _ => rfl) fun _ _ _ _ _ _ c hp => (s_cons (q_set c (r_lst r_nil)) (s_cons (s_for hp c.cm (q_enm G.b_enumerate q_p) (q_tt c (t_cons (q_tn c) (t_cons (q_tn c) t_nil))) (s_one (s_for hp c.cm (r_itl q_p) (q_tn c) (s_one (s_if (PW.pt (r_tand (q_tcmp c q_p q_p) (pw_and1 (r_tnt (q_tv (q_b (ok_any c.cm) G.b_any (q_cons (q_lc [("between", 5)] c (r_itl q_p) (q_bk c fun _ _ _ _ _ c => (q_cn c)) (c_one (q_bk c fun _ _ _ _ _ c => (q_tcmp c q_p (r_tup (q_cons q_v (q_cons q_v r_nil)))))) (q_bk c fun _ _ _ _ _ c => (q_cmp c q_p (q_ix c q_p q_p)))) r_nil))))))) (s_one (q_ex (q_append (q_cons (r_tup (q_cons q_v (q_cons q_v r_nil))) r_nil)))) s_nil))))) (s_one (s_ret (q_t ok_tuple G.b_tuple (q_cons (q_b (ok_sorted c.cm) G.b_sorted (q_cons q_p r_nil)) r_nil))))))
/-! order_from -/
abbrev s11 : Stmt := top 24
theorem sc11 : FnScope ["size", "up"] ["size", "up"] (defScope s11) := ⟨rfl, rfl, rfl, by decide +kernel, rfl, by decide +kernel, by decide +kernel⟩
def e11 (g10 : Env → Rc) : ES := (retK (tupK (consK (rdV 0) (consK (callK g10 (consK (rdV 1) nilK)) nilK))))
def f11 : Env → Rc := mkF 2 0 (e11 f10)
theorem ok11 {g10 : Env → Rc} (G : GF P w K mg) (F : FunD K "order_from" "order_from" (defArgs s11) (defBody s11) (defScope s11) [] [] f fd) (hm : mg "order_from" = some (.ref f)) (d10 : Cal P w K mg base TB (CC K) 1 "covers_from" ["up"] g10) : Cal P w K mg base TB (CC K) 2 "order_from" ["size", "up"] (mkF 2 0 (e11 g10)) :=
  q_def F hm sc11 (fun _ => rfl) rfl rfl (fun _ _ _ _ _ _ us hl => match us, hl with | [_, _], _ => rfl) fun _ _ _ _ _ _ c hp => (s_one (s_ret (r_tup (q_cons q_v (q_cons (q_call d10 c (q_cons q_v r_nil)) r_nil)))))
/-! hall_of_cuts -/
abbrev s28 : Stmt := top 54
theorem sc28 : FnScope ["lots", "up", "lot", "at", "far", "one"] ["lots"] (defScope s28) := ⟨rfl, rfl, rfl, by decide +kernel, rfl, by decide +kernel, by decide +kernel⟩
def e28 (g11 : Env → Rc) : ES := (sqK (asgK (setSlot 1) (lstK nilK)) (sqK (frK [0] (setSlot 2) (itlK [0] (rdP 0)) (exK (mutK .append 1 (consK (compK [3, 4] (genK [3, 4] [0] (ttK 2 (tconsK (setSlot 3) (tconsK (setSlot 4) tnilK))) (enmK [0] (rdP 0)) (tvK (bltK .all (consK (compK [5] (genK [5] [2] (setSlot 5) (itlK [2] (rdP 2)) yesK (eltK (cmpK .isin (rdP 5) (rdP 4))))) nilK))) (eltK (rdV 3)))) nilK)))) (retK (callK g11 (consK (bltK .len (consK (rdP 0) nilK)) (consK (rdP 1) nilK))))))
def f28 : Env → Rc := mkF 1 5 (e28 f11)
theorem ok28 {g11 : Env → Rc} (G : GF P w K mg) (F : FunD K "hall_of_cuts" "hall_of_cuts" (defArgs s28) (defBody s28) (defScope s28) [] [] f fd) (hm : mg "hall_of_cuts" = some (.ref f)) (d11 : Cal P w K mg base TB (CC K) 2 "order_from" ["size", "up"] g11) : Cal P w K mg base TB (CC K) 3 "hall_of_cuts" ["lots"] (mkF 1 5 (e28 g11)) :=
  q_def F hm sc28 (fun _ => rfl) rfl rfl (fun _ _ _ _ _ _ us hl => match us, hl with | [_], _ => rfl) fun _ _ _ _ _ _ c hp => (s_cons (q_set c (r_lst r_nil)) (s_cons (s_for hp c.cm (r_itl q_p) (q_tn c) (s_one (q_ex (q_append (q_cons (q_lc [("at", 3), ("far", 4)] c (q_enm G.b_enumerate q_p) (q_bk c fun _ _ _ _ _ c => (q_ct c (ct_cons (q_cn c) (ct_cons (q_cn c) ct_nil)))) (c_one (q_bk c fun _ _ _ _ _ c => (q_tv (q_b (ok_all c.cm) G.b_all (q_cons (q_lc [("one", 5)] c (r_itl q_p) (q_bk c fun _ _ _ _ _ c => (q_cn c)) c_nil (q_bk c fun _ _ _ _ _ c => (q_cmp c q_p q_p))) r_nil))))) (q_bk c fun _ _ _ _ _ c => q_v)) r_nil))))) (s_one (s_ret (q_call d11 c (q_cons (q_b ok_len G.b_len (q_cons q_p r_nil)) (q_cons q_p r_nil)))))))
/-! completion -/
abbrev s40 : Stmt := top 66
theorem sc40 : FnScope ["order"] ["order"] (defScope s40) := ⟨rfl, rfl, rfl, by decide +kernel, rfl, by decide +kernel, by decide +kernel⟩
def e40 (g17 g27 g28 : Env → Rc) : ES := (sqK (exK (callvK g17 0 (consK (rdV 0) nilK))) (retK (callK g28 (consK (callK g27 (consK (rdV 0) nilK)) nilK))))
def f40 : Env → Rc := mkF 1 0 (e40 f17 f27 f28)
theorem ok40 {g17 g27 g28 : Env → Rc} (G : GF P w K mg) (F : FunD K "completion" "completion" (defArgs s40) (defBody s40) (defScope s40) [] [] f fd) (hm : mg "completion" = some (.ref f)) (d17 : CalV P w K mg base TB (CC K) 6 "require_order" 0 g17) (d27 : Cal P w K mg base TB (CC K) 4 "cuts_in" ["order"] g27) (d28 : Cal P w K mg base TB (CC K) 3 "hall_of_cuts" ["lots"] g28) : Cal P w K mg base TB (CC K) 7 "completion" ["order"] (mkF 1 0 (e40 g17 g27 g28)) :=
  q_def F hm sc40 (fun _ => rfl) rfl rfl (fun _ _ _ _ _ _ us hl => match us, hl with | [_], _ => rfl) fun _ _ _ _ _ _ c hp => (s_cons (q_ex (q_callv d17 c (q_cons q_v r_nil))) (s_one (s_ret (q_call d28 c (q_cons (q_call d27 c (q_cons q_v r_nil)) r_nil)))))
/-! places_in -/
abbrev s29 : Stmt := top 55
theorem sc29 : FnScope ["order", "lots", "place"] ["order", "lots"] (defScope s29) := ⟨rfl, rfl, rfl, by decide +kernel, rfl, by decide +kernel, by decide +kernel⟩
def e29 (g16 : Env → Rc) : ES := (retK (compK [2] (genK [2] [] (setSlot 2) (itlK [] (callK g16 (consK (rdV 0) nilK))) yesK (eltK (mthK .index (rdP 1) (consK (bltK .tuple (consK (rdP 2) nilK)) nilK))))))
def f29 : Env → Rc := mkF 2 1 (e29 f16)
theorem ok29 {g16 : Env → Rc} (G : GF P w K mg) (F : FunD K "places_in" "places_in" (defArgs s29) (defBody s29) (defScope s29) [] [] f fd) (hm : mg "places_in" = some (.ref f)) (d16 : Cal P w K mg base TB (CC K) 3 "down_in" ["order"] g16) : Cal P w K mg base TB (CC K) 4 "places_in" ["order", "lots"] (mkF 2 1 (e29 g16)) :=
  q_def F hm sc29 (fun _ => rfl) rfl rfl (fun _ _ _ _ _ _ us hl => match us, hl with | [_, _], _ => rfl) fun _ _ _ _ _ _ c hp => (s_one (s_ret (q_lc [("place", 2)] c (r_itl (q_call d16 c (q_cons q_v r_nil))) (q_bk c fun _ _ _ _ _ c => (q_cn c)) c_nil (q_bk c fun _ _ _ _ _ c => (q_index c q_p (q_cons (q_t ok_tuple G.b_tuple (q_cons q_p r_nil)) r_nil))))))
/-! places -/
abbrev s41 : Stmt := top 67
theorem sc41 : FnScope ["order"] ["order"] (defScope s41) := ⟨rfl, rfl, rfl, by decide +kernel, rfl, by decide +kernel, by decide +kernel⟩
def e41 (g17 g27 g29 : Env → Rc) : ES := (sqK (exK (callvK g17 0 (consK (rdV 0) nilK))) (retK (bltK .tuple (consK (callK g29 (consK (rdV 0) (consK (callK g27 (consK (rdV 0) nilK)) nilK))) nilK))))
def f41 : Env → Rc := mkF 1 0 (e41 f17 f27 f29)
theorem ok41 {g17 g27 g29 : Env → Rc} (G : GF P w K mg) (F : FunD K "places" "places" (defArgs s41) (defBody s41) (defScope s41) [] [] f fd) (hm : mg "places" = some (.ref f)) (d17 : CalV P w K mg base TB (CC K) 6 "require_order" 0 g17) (d27 : Cal P w K mg base TB (CC K) 4 "cuts_in" ["order"] g27) (d29 : Cal P w K mg base TB (CC K) 4 "places_in" ["order", "lots"] g29) : Cal P w K mg base TB (CC K) 7 "places" ["order"] (mkF 1 0 (e41 g17 g27 g29)) :=
  q_def F hm sc41 (fun _ => rfl) rfl rfl (fun _ _ _ _ _ _ us hl => match us, hl with | [_], _ => rfl) fun _ _ _ _ _ _ c hp => (s_cons (q_ex (q_callv d17 c (q_cons q_v r_nil))) (s_one (s_ret (q_t ok_tuple G.b_tuple (q_cons (q_call d29 c (q_cons q_v (q_cons (q_call d27 c (q_cons q_v r_nil)) r_nil))) r_nil)))))
/-! new_cuts -/
abbrev s42 : Stmt := top 68
theorem sc42 : FnScope ["order", "every", "lot"] ["order"] (defScope s42) := ⟨rfl, rfl, rfl, by decide +kernel, rfl, by decide +kernel, by decide +kernel⟩
def e42 (g16 g17 g27 : Env → Rc) : ES := (sqK (exK (callvK g17 0 (consK (rdV 0) nilK))) (sqK (asgK (setSlot 1) (callK g16 (consK (rdV 0) nilK))) (retK (bltK .tuple (consK (compXK [2] [] (setSlot 2) (itlK [] (callK g27 (consK (rdV 0) nilK))) (tvK (cmpK .notin (bltK .list (consK (rdP 2) nilK)) (rdP 1))) (rdV 2)) nilK)))))
def f42 : Env → Rc := mkF 1 2 (e42 f16 f17 f27)
theorem ok42 {g16 g17 g27 : Env → Rc} (G : GF P w K mg) (F : FunD K "new_cuts" "new_cuts" (defArgs s42) (defBody s42) (defScope s42) [] [] f fd) (hm : mg "new_cuts" = some (.ref f)) (d16 : Cal P w K mg base TB (CC K) 3 "down_in" ["order"] g16) (d17 : CalV P w K mg base TB (CC K) 6 "require_order" 0 g17) (d27 : Cal P w K mg base TB (CC K) 4 "cuts_in" ["order"] g27) : Cal P w K mg base TB (CC K) 7 "new_cuts" ["order"] (mkF 1 2 (e42 g16 g17 g27)) :=
  q_def F hm sc42 (fun _ => rfl) rfl rfl (fun _ _ _ _ _ _ us hl => match us, hl with | [_], _ => rfl) fun _ _ _ _ _ _ c hp => (s_cons (q_ex (q_callv d17 c (q_cons q_v r_nil))) (s_cons (q_set c (q_call d16 c (q_cons q_v r_nil))) (s_one (s_ret (q_t ok_tuple G.b_tuple (q_cons (q_lcX [("lot", 2)] c (r_itl (q_call d27 c (q_cons q_v r_nil))) (q_bk c fun _ _ _ _ _ c => (q_cn c)) (c_one (q_bk c fun _ _ _ _ _ c => (q_tcmp c (q_t (ok_list c.cm) G.b_list (q_cons q_p r_nil)) q_p))) (q_bk c fun _ _ _ _ _ c => q_v)) r_nil))))))
/-! completion_paper -/
abbrev s43 : Stmt := top 69
theorem sc43 : FnScope ["order", "hall", "map_row", "found"] ["order", "hall", "map_row"] (defScope s43) := ⟨rfl, rfl, rfl, by decide +kernel, rfl, by decide +kernel, by decide +kernel⟩
def e43 (g17 g22 g32 g34 : Env → Rc) : ES := (sqK (exK (callvK g17 0 (consK (rdV 0) nilK))) (sqK (exK (callvK g22 0 (consK (rdV 1) nilK))) (sqK (exK (callK g34 (consK (ixK (rdP 0) (cK (.int 0))) (consK (ixK (rdP 1) (cK (.int 0))) (consK (rdV 2) nilK))))) (sqK (asgK (setSlot 3) (callK g32 (consK (rdV 0) (consK (rdV 1) (consK (rdV 2) nilK))))) (retK (iteK (tvK (cmpK .eq (rdP 3) (lstK nilK))) (tupK (consK (cK (.str [99, 111, 109, 112, 108, 101, 116, 105, 111, 110])) nilK)) (ixK (rdP 3) (cK (.int 0)))))))))
def f43 : Env → Rc := mkF 3 1 (e43 f17 f22 f32 f34)
theorem ok43 {g17 g22 g32 g34 : Env → Rc} (G : GF P w K mg) (F : FunD K "completion_paper" "completion_paper" (defArgs s43) (defBody s43) (defScope s43) [] [] f fd) (hm : mg "completion_paper" = some (.ref f)) (d17 : CalV P w K mg base TB (CC K) 6 "require_order" 0 g17) (d22 : CalV P w K mg base TB (CC K) 7 "require_hall" 0 g22) (d32 : Cal P w K mg base TB (CC K) 5 "bars_of" ["order", "hall", "row"] g32) (d34 : Cal P w K mg base TB (CC K) 3 "require_map" ["size", "goal_size", "row"] g34) : Cal P w K mg base TB (CC K) 8 "completion_paper" ["order", "hall", "map_row"] (mkF 3 1 (e43 g17 g22 g32 g34)) :=
  q_def F hm sc43 (fun _ => rfl) rfl rfl (fun _ _ _ _ _ _ us hl => match us, hl with | [_, _, _], _ => rfl) fun _ _ _ _ _ _ c hp => (s_cons (q_ex (q_callv d17 c (q_cons q_v r_nil))) (s_cons (q_ex (q_callv d22 c (q_cons q_v r_nil))) (s_cons (q_ex (q_call d34 c (q_cons (q_ix c q_p r_int) (q_cons (q_ix c q_p r_int) (q_cons q_v r_nil))))) (s_cons (q_set c (q_call d32 c (q_cons q_v (q_cons q_v (q_cons q_v r_nil))))) (s_one (s_ret (r_ite (q_tcmp c q_p (r_lst r_nil)) (r_tup (q_cons (q_gs G.k_COMPLETION) r_nil)) (q_ix c q_p r_int))))))))
/-! does_lie -/
abbrev s45 : Stmt := top 71
theorem sc45 : FnScope ["order", "far_order", "map_row"] ["order", "far_order", "map_row"] (defScope s45) := ⟨rfl, rfl, rfl, by decide +kernel, rfl, by decide +kernel, by decide +kernel⟩
def e45 (g17 g30 g34 : Env → Rc) : ES := (sqK (exK (callvK g17 0 (consK (rdV 0) (consK (rdV 1) nilK)))) (sqK (exK (callK g34 (consK (ixK (rdP 0) (cK (.int 0))) (consK (ixK (rdP 1) (cK (.int 0))) (consK (rdV 2) nilK))))) (retK (cmpK .eq (callK g30 (consK (rdV 0) (consK (rdV 1) (consK (rdV 2) nilK)))) (lstK nilK)))))
def f45 : Env → Rc := mkF 3 0 (e45 f17 f30 f34)
theorem ok45 {g17 g30 g34 : Env → Rc} (G : GF P w K mg) (F : FunD K "does_lie" "does_lie" (defArgs s45) (defBody s45) (defScope s45) [] [] f fd) (hm : mg "does_lie" = some (.ref f)) (d17 : CalV P w K mg base TB (CC K) 6 "require_order" 0 g17) (d30 : Cal P w K mg base TB (CC K) 4 "unlike_pairs" ["order", "hall", "row"] g30) (d34 : Cal P w K mg base TB (CC K) 3 "require_map" ["size", "goal_size", "row"] g34) : Cal P w K mg base TB (CC K) 7 "does_lie" ["order", "far_order", "map_row"] (mkF 3 0 (e45 g17 g30 g34)) :=
  q_def F hm sc45 (fun _ => rfl) rfl rfl (fun _ _ _ _ _ _ us hl => match us, hl with | [_, _, _], _ => rfl) fun _ _ _ _ _ _ c hp => (s_cons (q_ex (q_callv d17 c (q_cons q_v (q_cons q_v r_nil)))) (s_cons (q_ex (q_call d34 c (q_cons (q_ix c q_p r_int) (q_cons (q_ix c q_p r_int) (q_cons q_v r_nil))))) (s_one (s_ret (q_cmp c (q_call d30 c (q_cons q_v (q_cons q_v (q_cons q_v r_nil)))) (r_lst r_nil))))))
/-! _law_met -/
abbrev s49 : Stmt := top 76
theorem sc49 : FnScope ["call", "error"] ["call"] (defScope s49) := ⟨rfl, rfl, rfl, by decide +kernel, rfl, by decide +kernel, by decide +kernel⟩
def hMet : EH := (hdK 2 (fun _ => (retK (tupK (consK (cK (.str [111, 114, 100, 101, 114])) nilK)))) (hdK 3 (fun _ => (retK (tupK (consK (cK (.str [104, 97, 108, 108])) nilK)))) (hdK 5 (fun _ => (retK (tupK (consK (cK (.str [108, 111, 116])) nilK)))) (hdK 4 (fun _ => (retK (tupK (consK (cK (.str [109, 97, 112])) nilK)))) (hdK 6 (fldK 1 [109, 97, 110, 121]) hnilK)))))
def bMet : ES := (retK (tupK (consK (cK (.str [102, 105, 110, 101])) nilK)))
theorem ok49 (G : GF P w K mg) (F : FunD K "_law_met" "_law_met" (defArgs s49) (defBody s49) (defScope s49) [] [] f fd) (hm : mg "_law_met" = some (.ref f)) : Met P w K mg TB (CC K) "_law_met" 2 hMet bMet :=
  q_met (wv := (wC K TB (CC K) (.ref (ga K "InvalidOrder")) (retK (tupK (consK (cK (.str [111, 114, 100, 101, 114])) nilK))) (wC K TB (CC K) (.ref (ga K "InvalidHall")) (retK (tupK (consK (cK (.str [104, 97, 108, 108])) nilK))) (wC K TB (CC K) (.ref (ga K "InvalidLot")) (retK (tupK (consK (cK (.str [108, 111, 116])) nilK))) (wC K TB (CC K) (.ref (ga K "InvalidMap")) (retK (tupK (consK (cK (.str [109, 97, 112])) nilK))) (wF1 K (ga K "TooMany") "limit" (.ref (ga K "TooMany")) 1 (toStr [109, 97, 110, 121]) wE)))))) F hm (F.bindsN (fun _ _ _ _ _ _ us hl => match us, hl with | [_], _ => rfl)) sc49 rfl rfl (.inl rfl) (fun _ _ _ _ _ _ => (q_hc (nm_own G.g_InvalidOrder) (fun _ _ _ => (s_one (s_ret (r_tup (q_cons q_s r_nil))))) (q_hc (nm_own G.g_InvalidHall) (fun _ _ _ => (s_one (s_ret (r_tup (q_cons q_s r_nil))))) (q_hc (nm_own G.g_InvalidLot) (fun _ _ _ => (s_one (s_ret (r_tup (q_cons q_s r_nil))))) (q_hc (nm_own G.g_InvalidMap) (fun _ _ _ => (s_one (s_ret (r_tup (q_cons q_s r_nil))))) (q_hf (nm_own G.g_TooMany) sc49.nd G.f_TooMany.1 G.f_TooMany.2 q_h0)))))) (fun _ _ _ _ _ _ => (s_one (s_ret (r_tup (q_cons q_s r_nil))))) (q_sc G.x_InvalidOrder (q_sc G.x_InvalidHall (q_sc G.x_InvalidLot (q_sc G.x_InvalidMap (q_sf (f := "limit") G.x_TooMany rfl q_s0)))))
/-! _law_all -/
abbrev s50 : Stmt := top 77
theorem sc50 : FnScope ["order", "lot", "hall", "row", "found"] ["order", "lot", "hall", "row"] (defScope s50) := ⟨rfl, rfl, rfl, by decide +kernel, rfl, by decide +kernel, by decide +kernel⟩
def e50 (g35 g36 g37 g38 g39 g40 g41 g42 g43 g44 g45 : Env → Rc) : ES := (sqK (asgK (setSlot 4) (lstK (consK (lamK (metK 2 hMet bMet) (callK g35 (consK (rdV 0) (consK (rdV 1) nilK)))) nilK))) (sqK (exK (mutK .append 4 (consK (lamK (metK 2 hMet bMet) (callK g36 (consK (rdV 0) (consK (rdV 1) nilK)))) nilK))) (sqK (exK (mutK .append 4 (consK (lamK (metK 2 hMet bMet) (callK g37 (consK (rdV 0) (consK (rdV 1) nilK)))) nilK))) (sqK (exK (mutK .append 4 (consK (lamK (metK 2 hMet bMet) (callK g38 (consK (rdV 0) (consK (rdV 1) nilK)))) nilK))) (sqK (exK (mutK .append 4 (consK (lamK (metK 2 hMet bMet) (callK g43 (consK (rdV 0) (consK (rdV 2) (consK (rdV 3) nilK))))) nilK))) (sqK (exK (mutK .append 4 (consK (lamK (metK 2 hMet bMet) (callK g44 (consK (rdV 0) (consK (rdV 2) (consK (rdV 3) (consK (cK .non) nilK)))))) nilK))) (sqK (exK (mutK .append 4 (consK (lamK (metK 2 hMet bMet) (callK g45 (consK (rdV 0) (consK (rdV 2) (consK (rdV 3) nilK))))) nilK))) (sqK (exK (mutK .append 4 (consK (lamK (metK 2 hMet bMet) (callK g39 (consK (rdV 0) nilK))) nilK))) (sqK (exK (mutK .append 4 (consK (lamK (metK 2 hMet bMet) (callK g40 (consK (rdV 0) nilK))) nilK))) (sqK (exK (mutK .append 4 (consK (lamK (metK 2 hMet bMet) (callK g41 (consK (rdV 0) nilK))) nilK))) (sqK (exK (mutK .append 4 (consK (lamK (metK 2 hMet bMet) (callK g42 (consK (rdV 0) nilK))) nilK))) (rtvK 4))))))))))))
def f50 : Env → Rc := mkF 4 1 (e50 f35 f36 f37 f38 f39 f40 f41 f42 f43 f44 f45)
theorem ok50 {g35 g36 g37 g38 g39 g40 g41 g42 g43 g44 g45 : Env → Rc} {cc P0 : Addr} {q0 : Str} (G : GF P w K mg) (F : FunD K "_law_all" "_law_all" (defArgs s50) (defBody s50) (defScope s50) [] [] f fd) (hm : mg "_law_all" = some (.ref f)) (hcc : fd.code = .ref cc) (T : LamX.TabB base mg cc P0) (hq : ∀ n, (envOfC "_law_all" (defScope s50) n f (.ref cc)).qual ++ "<lambda>" = q0) (hmT : (P0, q0) ∈ TB) (hu : ∀ p ∈ TB, p.1 = P0 → p.2 = q0) (dMet : Met P w K mg TB (CC K) "_law_met" 2 hMet bMet) (d35 : Cal P w K mg base TB (CC K) 8 "is_cut" ["order", "lot"] g35) (d36 : Cal P w K mg base TB (CC K) 8 "cut_around" ["order", "lot"] g36) (d37 : Cal P w K mg base TB (CC K) 8 "upper_lot" ["order", "lot"] g37) (d38 : Cal P w K mg base TB (CC K) 8 "lower_lot" ["order", "lot"] g38) (d39 : Cal P w K mg base TB (CC K) 7 "cuts" ["order"] g39) (d40 : Cal P w K mg base TB (CC K) 7 "completion" ["order"] g40) (d41 : Cal P w K mg base TB (CC K) 7 "places" ["order"] g41) (d42 : Cal P w K mg base TB (CC K) 7 "new_cuts" ["order"] g42) (d43 : Cal P w K mg base TB (CC K) 8 "completion_paper" ["order", "hall", "map_row"] g43) (d44 : Cal P w K mg base TB (CC K) 8 "is_completion_paper" ["order", "hall", "map_row", "value"] g44) (d45 : Cal P w K mg base TB (CC K) 7 "does_lie" ["order", "far_order", "map_row"] g45) : Cal P w K mg base TB (CC K) 11 "_law_all" ["order", "lot", "hall", "row"] (mkF 4 1 (e50 g35 g36 g37 g38 g39 g40 g41 g42 g43 g44 g45)) :=
  q_defL F hm hcc T hq hmT hu sc50 (fun _ => rfl) rfl rfl (fun _ _ _ _ _ _ us hl => match us, hl with | [_, _, _, _], _ => rfl) fun _ _ _ _ _ c B hp => (s_cons (q_set c (r_lst (q_cons (q_lam (k := 8) dMet B c fun _ _ _ _ _ _ _ c => (q_call d35 c (q_cons q_v (q_cons q_v r_nil)))) r_nil))) (s_cons (q_ex (q_append (q_cons (q_lam (k := 8) dMet B c fun _ _ _ _ _ _ _ c => (q_call d36 c (q_cons q_v (q_cons q_v r_nil)))) r_nil))) (s_cons (q_ex (q_append (q_cons (q_lam (k := 8) dMet B c fun _ _ _ _ _ _ _ c => (q_call d37 c (q_cons q_v (q_cons q_v r_nil)))) r_nil))) (s_cons (q_ex (q_append (q_cons (q_lam (k := 8) dMet B c fun _ _ _ _ _ _ _ c => (q_call d38 c (q_cons q_v (q_cons q_v r_nil)))) r_nil))) (s_cons (q_ex (q_append (q_cons (q_lam (k := 8) dMet B c fun _ _ _ _ _ _ _ c => (q_call d43 c (q_cons q_v (q_cons q_v (q_cons q_v r_nil))))) r_nil))) (s_cons (q_ex (q_append (q_cons (q_lam (k := 8) dMet B c fun _ _ _ _ _ _ _ c => (q_call d44 c (q_cons q_v (q_cons q_v (q_cons q_v (q_cons r_non r_nil)))))) r_nil))) (s_cons (q_ex (q_append (q_cons (q_lam (k := 8) dMet B c fun _ _ _ _ _ _ _ c => (q_call d45 c (q_cons q_v (q_cons q_v (q_cons q_v r_nil))))) r_nil))) (s_cons (q_ex (q_append (q_cons (q_lam (k := 8) dMet B c fun _ _ _ _ _ _ _ c => (q_call d39 c (q_cons q_v r_nil))) r_nil))) (s_cons (q_ex (q_append (q_cons (q_lam (k := 8) dMet B c fun _ _ _ _ _ _ _ c => (q_call d40 c (q_cons q_v r_nil))) r_nil))) (s_cons (q_ex (q_append (q_cons (q_lam (k := 8) dMet B c fun _ _ _ _ _ _ _ c => (q_call d41 c (q_cons q_v r_nil))) r_nil))) (s_cons (q_ex (q_append (q_cons (q_lam (k := 8) dMet B c fun _ _ _ _ _ _ _ c => (q_call d42 c (q_cons q_v r_nil))) r_nil))) (s_one q_rtv))))))))))))
/-! _law_draw -/
abbrev s47 : Stmt := top 74
theorem sc47 : FnScope ["bag", "many", "found"] ["bag", "many"] (defScope s47) := ⟨rfl, rfl, rfl, by decide +kernel, rfl, by decide +kernel, by decide +kernel⟩
def e47 : ES := (sqK (iteK (tvK (cmpK .gt (ixK (rdP 0) (cK (.int 0))) (cK (.int 0)))) (sqK (asgK (setSlot 2) (opK .mod (bltK .int (consK (ixK (rdP 0) (cK (.int 0))) nilK)) (rdP 1))) (sqK (asgK (tsK 0 (cK (.int 0))) (opK .fdiv (ixK (rdP 0) (cK (.int 0))) (rdP 1))) (rtvK 2))) skipK) (sqK (asgK (tsK 0 (cK (.int 1))) (opK .mod (bltK .int (consK (opK .add (opK .mul (ixK (rdP 0) (cK (.int 1))) (cK (.int 6364136223))) (cK (.int 1442695041))) nilK)) (opK .sub (opK .pow (cK (.int 2)) (cK (.int 61))) (cK (.int 1))))) (retK (opK .mod (bltK .int (consK (opK .fdiv (ixK (rdP 0) (cK (.int 1))) (cK (.int 65537))) nilK)) (rdP 1)))))
def f47 : Env → Rc := mkF 2 1 e47
theorem ok47 (G : GF P w K mg) (F : FunD K "_law_draw" "_law_draw" (defArgs s47) (defBody s47) (defScope s47) [] [] f fd) (hm : mg "_law_draw" = some (.ref f)) : Cal P w K mg base TB (CC K) 1 "_law_draw" ["bag", "many"] (mkF 2 1 e47) :=
  q_def F hm sc47 (fun _ => rfl) rfl rfl (fun _ _ _ _ _ _ us hl => match us, hl with | [_, _], _ => rfl) fun _ _ _ _ _ _ c hp => (s_cons (s_if (q_tcmp c (q_ix c q_p r_int) r_int) (s_cons (q_set c (q_op (q_t ok_int G.b_int (q_cons (q_ix c q_p r_int) r_nil)) q_p)) (s_cons (q_asg (q_ts c r_int) (q_op (q_ix c q_p r_int) q_p)) (s_one q_rtv))) s_nil) (s_cons (q_asg (q_ts c r_int) (q_op (q_t ok_int G.b_int (q_cons (q_op (q_op (q_ix c q_p r_int) r_int) r_int) r_nil)) (q_op (q_op r_int r_int) r_int))) (s_one (s_ret (q_op (q_t ok_int G.b_int (q_cons (q_op (q_ix c q_p r_int) r_int) r_nil)) q_p)))))
/-! _law_one_of -/
abbrev s48 : Stmt := top 75
theorem sc48 : FnScope ["bag", "items"] ["bag", "items"] (defScope s48) := ⟨rfl, rfl, rfl, by decide +kernel, rfl, by decide +kernel, by decide +kernel⟩
def e48 (g47 : Env → Rc) : ES := (retK (ixK (rdP 1) (callK g47 (consK (rdP 0) (consK (bltK .len (consK (rdP 1) nilK)) nilK)))))
def f48 : Env → Rc := mkF 2 0 (e48 f47)
theorem ok48 {g47 : Env → Rc} (G : GF P w K mg) (F : FunD K "_law_one_of" "_law_one_of" (defArgs s48) (defBody s48) (defScope s48) [] [] f fd) (hm : mg "_law_one_of" = some (.ref f)) (d47 : Cal P w K mg base TB (CC K) 1 "_law_draw" ["bag", "many"] g47) : Cal P w K mg base TB (CC K) 2 "_law_one_of" ["bag", "items"] (mkF 2 0 (e48 g47)) :=
  q_def F hm sc48 (fun _ => rfl) rfl rfl (fun _ _ _ _ _ _ us hl => match us, hl with | [_, _], _ => rfl) fun _ _ _ _ _ _ c hp => (s_one (s_ret (q_ix c q_p (q_call d47 c (q_cons q_p (q_cons (q_b ok_len G.b_len (q_cons q_p r_nil)) r_nil))))))
/-! _law_right -/
abbrev s51 : Stmt := top 78
theorem sc51 : FnScope ["bag", "bad", "order", "two", "cube", "lot", "hall", "row"] ["bag"] (defScope s51) := ⟨rfl, rfl, rfl, by decide +kernel, rfl, by decide +kernel, by decide +kernel⟩
def e51 (g45_1 g48_1 g48_2 g48_3 g48_4 g50_1 g50_2 g50_3 g50_4 g50_5 : Env → Rc) : ES := (sqK (asgK (setSlot 1) (lstK (consK (cK .non) (consK (cK (.int 0)) (consK (tupK nilK) (consK (lstK nilK) (consK (tupK (consK (cK (.int 2)) (consK (tupK (consK (tupK (consK (cK (.int 1)) (consK (cK (.int 1)) nilK))) nilK)) nilK))) (consK (tupK (consK (cK (.int 3)) (consK (tupK (consK (tupK (consK (cK (.int 0)) (consK (cK (.int 1)) nilK))) (consK (tupK (consK (cK (.int 1)) (consK (cK (.int 2)) nilK))) (consK (tupK (consK (cK (.int 0)) (consK (cK (.int 2)) nilK))) nilK)))) nilK))) (consK (tupK (consK (cK (.int 2)) (consK (lstK (consK (tupK (consK (cK (.int 0)) (consK (cK (.int 1)) nilK))) nilK)) nilK))) (consK (tupK (consK (cK (.bl true)) (consK (tupK nilK) nilK))) (consK (tupK (consK (cK (.int 17)) (consK (tupK nilK) nilK))) (consK (tupK (consK (cK (.int 0)) (consK (tupK nilK) nilK))) (consK (tupK (consK (cK (.int 2)) (consK (tupK (consK (tupK (consK (cK (.int 0)) (consK (cK (.int 2)) nilK))) nilK)) nilK))) (consK (dctK nilK) nilK)))))))))))))) (sqK (asgK (setSlot 2) (callK g48_1 (consK (rdP 0) (consK (opK .add (rdP 1) (lstK (consK (tupK (consK (cK (.int 2)) (consK (tupK (consK (tupK (consK (cK (.int 0)) (consK (cK (.int 1)) nilK))) (consK (tupK (consK (cK (.int 0)) (consK (cK (.int 1)) nilK))) nilK))) nilK))) (consK (tupK (consK (cK (.int 2)) (consK (tupK (consK (tupK (consK (cK (.int 0)) (consK (cK (.bl true)) nilK))) nilK)) nilK))) (consK (tupK (consK (cK (.int 3)) (consK (tupK (consK (tupK (consK (cK (.int 1)) (consK (cK (.int 2)) nilK))) (consK (tupK (consK (cK (.int 0)) (consK (cK (.int 1)) nilK))) nilK))) nilK))) (consK (tupK (consK (cK (.int 2)) (consK (tupK (consK (tupK (consK (cK (.int 0)) (consK (cK (.int 1)) nilK))) nilK)) (consK (cK (.int 0)) nilK)))) (consK (tupK (consK (cK (.int 2)) (consK (tupK (consK (tupK (consK (cK (.int 0)) (consK (cK (.int 1)) nilK))) (consK (tupK (consK (cK (.int 1)) (consK (cK (.int 0)) nilK))) nilK))) nilK))) nilK))))))) nilK)))) (sqK (asgpK 2 (tconsK (setSlot 3) (tconsK (setSlot 4) tnilK)) (consK (tupK (consK (cK (.int 2)) (consK (tupK nilK) nilK))) (consK (tupK (consK (cK (.int 4)) (consK (tupK (consK (tupK (consK (cK (.int 0)) (consK (cK (.int 1)) nilK))) (consK (tupK (consK (cK (.int 0)) (consK (cK (.int 2)) nilK))) (consK (tupK (consK (cK (.int 1)) (consK (cK (.int 3)) nilK))) (consK (tupK (consK (cK (.int 2)) (consK (cK (.int 3)) nilK))) nilK))))) nilK))) nilK))) (sqK (asgK (setSlot 5) (callK g48_2 (consK (rdP 0) (consK (lstK (consK (cK .non) (consK (lstK (consK (cK (.int 0)) nilK)) (consK (tupK (consK (cK (.int 1)) (consK (cK (.int 0)) nilK))) (consK (tupK (consK (cK (.int 0)) (consK (cK (.int 0)) nilK))) (consK (tupK (consK (cK (.int 2)) nilK)) (consK (tupK (consK (negK (cK (.int 1))) nilK)) (consK (tupK (consK (cK (.bl true)) nilK)) (consK (tupK (consK (cK (.str [48])) nilK)) (consK (cK (.int 0)) (consK (tupK (consK (cK (.int 0)) (consK (cK .non) nilK))) nilK))))))))))) nilK)))) (sqK (asgK (setSlot 6) (callK g48_3 (consK (rdP 0) (consK (rdV 1) nilK)))) (sqK (asgK (setSlot 7) (callK g48_4 (consK (rdP 0) (consK (lstK (consK (cK .non) (consK (lstK (consK (cK (.int 0)) (consK (cK (.int 1)) nilK))) (consK (tupK (consK (cK (.int 0)) nilK)) (consK (tupK (consK (cK (.int 0)) (consK (cK (.int 1)) (consK (cK (.int 2)) nilK)))) (consK (tupK (consK (cK (.int 0)) (consK (cK (.int 4)) nilK))) (consK (tupK (consK (cK (.int 0)) (consK (negK (cK (.int 1))) nilK))) (consK (tupK (consK (cK (.int 0)) (consK (cK (.bl true)) nilK))) (consK (tupK (consK (cK (.int 0)) (consK (cK (.str [49])) nilK))) (consK (cK (.int 0)) (consK (tupK (consK (cK (.int 0)) (consK (cK .non) nilK))) nilK))))))))))) nilK)))) (sqK (iteK (tvK (cmpK .ne (callK g50_1 (consK (rdV 2) (consK (rdV 5) (consK (rdV 6) (consK (rdV 7) nilK))))) (opK .mul (lstK (consK (tupK (consK (cK (.str [111, 114, 100, 101, 114])) nilK)) nilK)) (cK (.int 11))))) (retK (cK (.bl false))) skipK) (sqK (iteK (tvK (cmpK .ne (callK g50_2 (consK (rdV 3) (consK (rdV 5) (consK (rdV 6) (consK (rdV 7) nilK))))) (opK .add (opK .add (opK .add (opK .mul (lstK (consK (tupK (consK (cK (.str [108, 111, 116])) nilK)) nilK)) (cK (.int 4))) (opK .mul (lstK (consK (tupK (consK (cK (.str [104, 97, 108, 108])) nilK)) nilK)) (cK (.int 2)))) (lstK (consK (tupK (consK (cK (.str [111, 114, 100, 101, 114])) nilK)) nilK))) (opK .mul (lstK (consK (tupK (consK (cK (.str [102, 105, 110, 101])) nilK)) nilK)) (cK (.int 4)))))) (retK (cK (.bl false))) skipK) (sqK (iteK (tvK (cmpK .ne (callK g50_3 (consK (rdV 3) (consK (tupK (consK (cK (.int 0)) nilK)) (consK (rdV 3) (consK (tupK (consK (cK (.int 0)) (consK (cK (.int 1)) nilK))) nilK))))) (opK .add (opK .add (opK .mul (lstK (consK (tupK (consK (cK (.str [102, 105, 110, 101])) nilK)) nilK)) (cK (.int 4))) (opK .mul (lstK (consK (tupK (consK (cK (.str [104, 97, 108, 108])) nilK)) nilK)) (cK (.int 2)))) (opK .mul (lstK (consK (tupK (consK (cK (.str [102, 105, 110, 101])) nilK)) nilK)) (cK (.int 5)))))) (retK (cK (.bl false))) skipK) (sqK (iteK (tvK (cmpK .ne (callK g50_4 (consK (rdV 3) (consK (tupK nilK) (consK (rdV 4) (consK (rdV 7) nilK))))) (opK .add (opK .add (opK .mul (lstK (consK (tupK (consK (cK (.str [102, 105, 110, 101])) nilK)) nilK)) (cK (.int 4))) (opK .mul (lstK (consK (tupK (consK (cK (.str [109, 97, 112])) nilK)) nilK)) (cK (.int 3)))) (opK .mul (lstK (consK (tupK (consK (cK (.str [102, 105, 110, 101])) nilK)) nilK)) (cK (.int 4)))))) (retK (cK (.bl false))) skipK) (retK (andK (cmpK .eq (callK g50_5 (consK (rdV 3) (consK (tupK (consK (cK (.int 0)) (consK (cK (.int 1)) nilK))) (consK (rdV 4) (consK (tupK (consK (cK (.int 3)) (consK (cK (.int 3)) nilK))) nilK))))) (opK .mul (lstK (consK (tupK (consK (cK (.str [102, 105, 110, 101])) nilK)) nilK)) (cK (.int 11)))) (cmpK .eq (lamK (metK 2 hMet bMet) (callK g45_1 (consK (rdV 3) (consK (rdV 3) (consK (tupK (consK (cK (.int 0)) (consK (cK (.int 2)) nilK))) nilK))))) (tupK (consK (cK (.str [109, 97, 112])) nilK)))))))))))))))
def f51 : Env → Rc := mkF 1 7 (e51 f45 f48 f48 f48 f48 f50 f50 f50 f50 f50)
theorem ok51 {g45_1 g48_1 g48_2 g48_3 g48_4 g50_1 g50_2 g50_3 g50_4 g50_5 : Env → Rc} {cc P0 : Addr} {q0 : Str} (G : GF P w K mg) (F : FunD K "_law_right" "_law_right" (defArgs s51) (defBody s51) (defScope s51) [] [] f fd) (hm : mg "_law_right" = some (.ref f)) (hcc : fd.code = .ref cc) (T : LamX.TabB base mg cc P0) (hq : ∀ n, (envOfC "_law_right" (defScope s51) n f (.ref cc)).qual ++ "<lambda>" = q0) (hmT : (P0, q0) ∈ TB) (hu : ∀ p ∈ TB, p.1 = P0 → p.2 = q0) (dMet : Met P w K mg TB (CC K) "_law_met" 2 hMet bMet) (d45_1 : Cal P w K mg base TB (CC K) 7 "does_lie" ["order", "far_order", "map_row"] g45_1) (d48_1 : Cal P w K mg base TB (CC K) 2 "_law_one_of" ["bag", "items"] g48_1) (d48_2 : Cal P w K mg base TB (CC K) 2 "_law_one_of" ["bag", "items"] g48_2) (d48_3 : Cal P w K mg base TB (CC K) 2 "_law_one_of" ["bag", "items"] g48_3) (d48_4 : Cal P w K mg base TB (CC K) 2 "_law_one_of" ["bag", "items"] g48_4) (d50_1 : Cal P w K mg base TB (CC K) 11 "_law_all" ["order", "lot", "hall", "row"] g50_1) (d50_2 : Cal P w K mg base TB (CC K) 11 "_law_all" ["order", "lot", "hall", "row"] g50_2) (d50_3 : Cal P w K mg base TB (CC K) 11 "_law_all" ["order", "lot", "hall", "row"] g50_3) (d50_4 : Cal P w K mg base TB (CC K) 11 "_law_all" ["order", "lot", "hall", "row"] g50_4) (d50_5 : Cal P w K mg base TB (CC K) 11 "_law_all" ["order", "lot", "hall", "row"] g50_5) : Cal P w K mg base TB (CC K) 14 "_law_right" ["bag"] (mkF 1 7 (e51 g45_1 g48_1 g48_2 g48_3 g48_4 g50_1 g50_2 g50_3 g50_4 g50_5)) :=
  q_defL F hm hcc T hq hmT hu sc51 (fun _ => rfl) rfl rfl (fun _ _ _ _ _ _ us hl => match us, hl with | [_], _ => rfl) fun _ _ _ _ _ c B hp => (s_cons (q_set c (r_lst (q_cons r_non (q_cons r_int (q_cons (r_tup r_nil) (q_cons (r_lst r_nil) (q_cons (r_tup (q_cons r_int (q_cons (r_tup (q_cons (r_tup (q_cons r_int (q_cons r_int r_nil))) r_nil)) r_nil))) (q_cons (r_tup (q_cons r_int (q_cons (r_tup (q_cons (r_tup (q_cons r_int (q_cons r_int r_nil))) (q_cons (r_tup (q_cons r_int (q_cons r_int r_nil))) (q_cons (r_tup (q_cons r_int (q_cons r_int r_nil))) r_nil)))) r_nil))) (q_cons (r_tup (q_cons r_int (q_cons (r_lst (q_cons (r_tup (q_cons r_int (q_cons r_int r_nil))) r_nil)) r_nil))) (q_cons (r_tup (q_cons r_bl (q_cons (r_tup r_nil) r_nil))) (q_cons (r_tup (q_cons r_int (q_cons (r_tup r_nil) r_nil))) (q_cons (r_tup (q_cons r_int (q_cons (r_tup r_nil) r_nil))) (q_cons (r_tup (q_cons r_int (q_cons (r_tup (q_cons (r_tup (q_cons r_int (q_cons r_int r_nil))) r_nil)) r_nil))) (q_cons r_dct0 r_nil)))))))))))))) (s_cons (q_set c (q_call d48_1 c (q_cons q_p (q_cons (q_op q_p (r_lst (q_cons (r_tup (q_cons r_int (q_cons (r_tup (q_cons (r_tup (q_cons r_int (q_cons r_int r_nil))) (q_cons (r_tup (q_cons r_int (q_cons r_int r_nil))) r_nil))) r_nil))) (q_cons (r_tup (q_cons r_int (q_cons (r_tup (q_cons (r_tup (q_cons r_int (q_cons r_bl r_nil))) r_nil)) r_nil))) (q_cons (r_tup (q_cons r_int (q_cons (r_tup (q_cons (r_tup (q_cons r_int (q_cons r_int r_nil))) (q_cons (r_tup (q_cons r_int (q_cons r_int r_nil))) r_nil))) r_nil))) (q_cons (r_tup (q_cons r_int (q_cons (r_tup (q_cons (r_tup (q_cons r_int (q_cons r_int r_nil))) r_nil)) (q_cons r_int r_nil)))) (q_cons (r_tup (q_cons r_int (q_cons (r_tup (q_cons (r_tup (q_cons r_int (q_cons r_int r_nil))) (q_cons (r_tup (q_cons r_int (q_cons r_int r_nil))) r_nil))) r_nil))) r_nil))))))) r_nil)))) (s_cons (q_asgt c (t_cons (q_tn c) (t_cons (q_tn c) t_nil)) (q_cons (r_tup (q_cons r_int (q_cons (r_tup r_nil) r_nil))) (q_cons (r_tup (q_cons r_int (q_cons (r_tup (q_cons (r_tup (q_cons r_int (q_cons r_int r_nil))) (q_cons (r_tup (q_cons r_int (q_cons r_int r_nil))) (q_cons (r_tup (q_cons r_int (q_cons r_int r_nil))) (q_cons (r_tup (q_cons r_int (q_cons r_int r_nil))) r_nil))))) r_nil))) r_nil))) (s_cons (q_set c (q_call d48_2 c (q_cons q_p (q_cons (r_lst (q_cons r_non (q_cons (r_lst (q_cons r_int r_nil)) (q_cons (r_tup (q_cons r_int (q_cons r_int r_nil))) (q_cons (r_tup (q_cons r_int (q_cons r_int r_nil))) (q_cons (r_tup (q_cons r_int r_nil)) (q_cons (r_tup (q_cons (r_neg r_int) r_nil)) (q_cons (r_tup (q_cons r_bl r_nil)) (q_cons (r_tup (q_cons q_s r_nil)) (q_cons r_int (q_cons (r_tup (q_cons r_int (q_cons r_non r_nil))) r_nil))))))))))) r_nil)))) (s_cons (q_set c (q_call d48_3 c (q_cons q_p (q_cons q_v r_nil)))) (s_cons (q_set c (q_call d48_4 c (q_cons q_p (q_cons (r_lst (q_cons r_non (q_cons (r_lst (q_cons r_int (q_cons r_int r_nil))) (q_cons (r_tup (q_cons r_int r_nil)) (q_cons (r_tup (q_cons r_int (q_cons r_int (q_cons r_int r_nil)))) (q_cons (r_tup (q_cons r_int (q_cons r_int r_nil))) (q_cons (r_tup (q_cons r_int (q_cons (r_neg r_int) r_nil))) (q_cons (r_tup (q_cons r_int (q_cons r_bl r_nil))) (q_cons (r_tup (q_cons r_int (q_cons q_s r_nil))) (q_cons r_int (q_cons (r_tup (q_cons r_int (q_cons r_non r_nil))) r_nil))))))))))) r_nil)))) (s_cons (s_if (q_tcmp c (q_call d50_1 c (q_cons q_v (q_cons q_v (q_cons q_v (q_cons q_v r_nil))))) (q_op (r_lst (q_cons (r_tup (q_cons q_s r_nil)) r_nil)) r_int)) (s_one (s_ret r_bl)) s_nil) (s_cons (s_if (q_tcmp c (q_call d50_2 c (q_cons q_v (q_cons q_v (q_cons q_v (q_cons q_v r_nil))))) (q_op (q_op (q_op (q_op (r_lst (q_cons (r_tup (q_cons q_s r_nil)) r_nil)) r_int) (q_op (r_lst (q_cons (r_tup (q_cons q_s r_nil)) r_nil)) r_int)) (r_lst (q_cons (r_tup (q_cons q_s r_nil)) r_nil))) (q_op (r_lst (q_cons (r_tup (q_cons q_s r_nil)) r_nil)) r_int))) (s_one (s_ret r_bl)) s_nil) (s_cons (s_if (q_tcmp c (q_call d50_3 c (q_cons q_v (q_cons (r_tup (q_cons r_int r_nil)) (q_cons q_v (q_cons (r_tup (q_cons r_int (q_cons r_int r_nil))) r_nil))))) (q_op (q_op (q_op (r_lst (q_cons (r_tup (q_cons q_s r_nil)) r_nil)) r_int) (q_op (r_lst (q_cons (r_tup (q_cons q_s r_nil)) r_nil)) r_int)) (q_op (r_lst (q_cons (r_tup (q_cons q_s r_nil)) r_nil)) r_int))) (s_one (s_ret r_bl)) s_nil) (s_cons (s_if (q_tcmp c (q_call d50_4 c (q_cons q_v (q_cons (r_tup r_nil) (q_cons q_v (q_cons q_v r_nil))))) (q_op (q_op (q_op (r_lst (q_cons (r_tup (q_cons q_s r_nil)) r_nil)) r_int) (q_op (r_lst (q_cons (r_tup (q_cons q_s r_nil)) r_nil)) r_int)) (q_op (r_lst (q_cons (r_tup (q_cons q_s r_nil)) r_nil)) r_int))) (s_one (s_ret r_bl)) s_nil) (s_one (s_ret (r_and (q_cmp c (q_call d50_5 c (q_cons q_v (q_cons (r_tup (q_cons r_int (q_cons r_int r_nil))) (q_cons q_v (q_cons (r_tup (q_cons r_int (q_cons r_int r_nil))) r_nil))))) (q_op (r_lst (q_cons (r_tup (q_cons q_s r_nil)) r_nil)) r_int)) (pe_one (q_cmp c (q_lam (k := 11) dMet B c fun _ _ _ _ _ _ _ c => (q_call d45_1 c (q_cons q_v (q_cons q_v (q_cons (r_tup (q_cons r_int (q_cons r_int r_nil))) r_nil))))) (r_tup (q_cons q_s r_nil)))))))))))))))))
/-! law -/
abbrev s52 : Stmt := top 79
theorem sc52 : FnScope ["script", "spot", "bag", "turn", "two", "cube", "odd", "found", "value", "pairs", "one", "far", "crown", "words"] ["script"] (defScope s52) := ⟨rfl, rfl, rfl, by decide +kernel, rfl, by decide +kernel, by decide +kernel⟩
def e52 (g44 g46 g50 g51 : Env → Rc) : ES := (sqK (frK [] (setSlot 1) (rng1K (bltK .max2 (consK (cK (.int 1)) (consK (bltK .min2 (consK (cK (.int 4)) (consK (bltK .len (consK (rdP 0) nilK)) nilK))) nilK)))) (sqK (asgK (setSlot 2) (callK g46 (consK (rdV 0) (consK (rdV 1) nilK)))) (iteK (tvK (cmpK .ne (compK [3] (genK [3] [] (setSlot 3) (rng1K (cK (.int 4))) (ntK (tvK (callK g51 (consK (rdP 2) nilK)))) (eltK (cK (.int 1))))) (lstK nilK))) (retK (cK (.bl false))) skipK))) (sqK (asgpK 2 (tconsK (setSlot 4) (tconsK (setSlot 5) tnilK)) (consK (tupK (consK (cK (.int 2)) (consK (tupK nilK) nilK))) (consK (tupK (consK (cK (.int 4)) (consK (tupK (consK (tupK (consK (cK (.int 0)) (consK (cK (.int 1)) nilK))) (consK (tupK (consK (cK (.int 0)) (consK (cK (.int 2)) nilK))) (consK (tupK (consK (cK (.int 1)) (consK (cK (.int 3)) nilK))) (consK (tupK (consK (cK (.int 2)) (consK (cK (.int 3)) nilK))) nilK))))) nilK))) nilK))) (sqK (asgK (setSlot 6) (lstK (consK (cK .non) (consK (cK (.int 0)) (consK (tupK nilK) (consK (lstK nilK) (consK (dctK nilK) (consK (cK (.str [99, 111, 109, 112, 108, 101, 116, 105, 111, 110])) (consK (tupK (consK (cK (.str [99, 111, 109, 112, 108, 101, 116, 105, 111, 110])) (consK (cK (.int 0)) nilK))) (consK (tupK (consK (cK (.str [111, 114, 100, 101, 114])) nilK)) (consK (tupK (consK (cK (.str [111, 114, 100, 101, 114])) (consK (cK (.int 0)) (consK (cK (.int 1)) nilK)))) (consK (tupK (consK (cK (.str [106, 111, 105, 110])) (consK (cK (.int 0)) nilK))) (consK (tupK (consK (cK (.str [106, 111, 105, 110])) (consK (cK (.int 3)) nilK))) (consK (tupK (consK (cK (.str [109, 101, 101, 116])) (consK (cK (.int 0)) nilK))) (consK (tupK (consK (cK (.str [106, 111, 105, 110])) nilK)) nilK))))))))))))))) (sqK (asgK (setSlot 6) (opK .add (rdP 6) (lstK (consK (tupK (consK (cK .non) (consK (cK (.int 0)) nilK))) (consK (lstK (consK (cK (.str [99, 111, 109, 112, 108, 101, 116, 105, 111, 110])) nilK)) (consK (tupK (consK (cK (.str [106, 111, 105, 110])) (consK (cK (.bl true)) nilK))) nilK)))))) (sqK (asgK (setSlot 7) (compK [8] (genK [8] [6] (setSlot 8) (itlK [6] (rdP 6)) (tvK (cmpK .isnot (callK g44 (consK (rdV 4) (consK (rdV 5) (consK (tupK (consK (cK (.int 1)) (consK (cK (.int 2)) nilK))) (consK (rdV 8) nilK))))) (cK (.bl false)))) (eltK (rdV 8))))) (sqK (asgK (setSlot 9) (bltK .sum2 (consK (compK [10] (genK [10] [] (setSlot 10) (rng1K (cK (.int 5))) yesK (eltK (compK [11] (genK [11] [] (setSlot 11) (rng1K (cK (.int 5))) (tvK (cmpK .ne (rdP 10) (rdP 11))) (eltK (tupK (consK (rdV 10) (consK (opK .add (cK (.int 5)) (rdP 11)) nilK))))))))) (consK (lstK nilK) nilK)))) (sqK (asgK (setSlot 12) (tupK (consK (cK (.int 10)) (consK (tupFK (consK (rdP 9) nilK)) nilK)))) (sqK (asgK (setSlot 13) (callK g50 (consK (rdV 12) (consK (tupK (consK (cK (.int 0)) nilK)) (consK (rdV 5) (consK (repK (tupK (consK (cK (.int 0)) nilK)) (cK (.int 10))) nilK)))))) (sqK (iteK (torK (tvK (cmpK .ne (rdP 13) (opK .add (opK .mul (lstK (consK (tupK (consK (cK (.str [102, 105, 110, 101])) nilK)) nilK)) (cK (.int 7))) (opK .mul (lstK (consK (tupK (consK (cK (.str [109, 97, 110, 121])) (consK (cK (.int 16)) nilK))) nilK)) (cK (.int 4)))))) (torK (tvK (cmpK .ne (rdP 7) (lstK nilK))) (tvK (cmpK .ne (cK (.int 16)) (cK (.int 16)))))) (retK (cK (.bl false))) skipK) (retK (cmpK .is (callK g44 (consK (rdV 4) (consK (rdV 5) (consK (tupK (consK (cK (.int 1)) (consK (cK (.int 2)) nilK))) (consK (tupK (consK (cK (.str [99, 111, 109, 112, 108, 101, 116, 105, 111, 110])) nilK)) nilK))))) (cK (.bl true)))))))))))))
def f52 : Env → Rc := mkF 1 13 (e52 f44 f46 f50 f51)
theorem ok52 {g44 g46 g50 g51 : Env → Rc} (G : GF P w K mg) (F : FunD K "law" "law" (defArgs s52) (defBody s52) (defScope s52) [] [] f fd) (hm : mg "law" = some (.ref f)) (d44 : Cal P w K mg base TB (CC K) 8 "is_completion_paper" ["order", "hall", "map_row", "value"] g44) (d46 : Cal P w K mg base TB (CC K) 1 "_law_bag" ["script", "spot"] g46) (d50 : Cal P w K mg base TB (CC K) 11 "_law_all" ["order", "lot", "hall", "row"] g50) (d51 : Cal P w K mg base TB (CC K) 14 "_law_right" ["bag"] g51) : Cal P w K mg base TB (CC K) 15 "law" ["script"] (mkF 1 13 (e52 g44 g46 g50 g51)) :=
  q_def F hm sc52 (fun _ => rfl) rfl rfl (fun _ _ _ _ _ _ us hl => match us, hl with | [_], _ => rfl) fun _ _ _ _ _ _ c hp => (s_cons (s_for hp c.cm (q_rng1 G.b_range (q_b (ok_max2 c.cm) G.b_max (q_cons r_int (q_cons (q_b (ok_min2 c.cm) G.b_min (q_cons r_int (q_cons (q_b ok_len G.b_len (q_cons q_p r_nil)) r_nil))) r_nil)))) (q_tn c) (s_cons (q_set c (q_call d46 c (q_cons q_v (q_cons q_v r_nil)))) (s_one (s_if (q_tcmp c (q_lc [("turn", 3)] c (q_rng1 G.b_range r_int) (q_bk c fun _ _ _ _ _ c => (q_cn c)) (c_one (q_bk c fun _ _ _ _ _ c => (r_tnt (q_tv (q_call d51 c (q_cons q_p r_nil)))))) (q_bk c fun _ _ _ _ _ c => r_int)) (r_lst r_nil)) (s_one (s_ret r_bl)) s_nil)))) (s_cons (q_asgt c (t_cons (q_tn c) (t_cons (q_tn c) t_nil)) (q_cons (r_tup (q_cons r_int (q_cons (r_tup r_nil) r_nil))) (q_cons (r_tup (q_cons r_int (q_cons (r_tup (q_cons (r_tup (q_cons r_int (q_cons r_int r_nil))) (q_cons (r_tup (q_cons r_int (q_cons r_int r_nil))) (q_cons (r_tup (q_cons r_int (q_cons r_int r_nil))) (q_cons (r_tup (q_cons r_int (q_cons r_int r_nil))) r_nil))))) r_nil))) r_nil))) (s_cons (q_set c (r_lst (q_cons r_non (q_cons r_int (q_cons (r_tup r_nil) (q_cons (r_lst r_nil) (q_cons r_dct0 (q_cons q_s (q_cons (r_tup (q_cons q_s (q_cons r_int r_nil))) (q_cons (r_tup (q_cons q_s r_nil)) (q_cons (r_tup (q_cons q_s (q_cons r_int (q_cons r_int r_nil)))) (q_cons (r_tup (q_cons q_s (q_cons r_int r_nil))) (q_cons (r_tup (q_cons q_s (q_cons r_int r_nil))) (q_cons (r_tup (q_cons q_s (q_cons r_int r_nil))) (q_cons (r_tup (q_cons q_s r_nil)) r_nil))))))))))))))) (s_cons (q_set c (q_op q_p (r_lst (q_cons (r_tup (q_cons r_non (q_cons r_int r_nil))) (q_cons (r_lst (q_cons q_s r_nil)) (q_cons (r_tup (q_cons q_s (q_cons r_bl r_nil))) r_nil)))))) (s_cons (q_lcS [("value", 8)] c (r_itl q_p) (q_bk c fun _ _ _ _ _ c => (q_cn c)) (c_one (q_bk c fun _ _ _ _ _ c => (q_tcmp c (q_call d44 c (q_cons q_v (q_cons q_v (q_cons (r_tup (q_cons r_int (q_cons r_int r_nil))) (q_cons q_v r_nil))))) r_bl))) (q_bk c fun _ _ _ _ _ c => q_v)) (s_cons (q_set c (q_b (ok_sum2 c.cm) G.b_sum (q_cons (q_lc [("one", 10)] c (q_rng1 G.b_range r_int) (q_bk c fun _ _ _ _ _ c => (q_cn c)) c_nil (q_bk c fun _ _ _ _ _ c => (q_lc [("far", 11)] c (q_rng1 G.b_range r_int) (q_bk c fun _ _ _ _ _ c => (q_cn c)) (c_one (q_bk c fun _ _ _ _ _ c => (q_tcmp c q_p q_p))) (q_bk c fun _ _ _ _ _ c => (r_tup (q_cons q_v (q_cons (q_op r_int q_p) r_nil))))))) (q_cons (r_lst r_nil) r_nil)))) (s_cons (q_set c (r_tup (q_cons r_int (q_cons (q_tupF G.b_tuple (q_cons q_p r_nil)) r_nil)))) (s_cons (q_set c (q_call d50 c (q_cons q_v (q_cons (r_tup (q_cons r_int r_nil)) (q_cons q_v (q_cons (q_rep (r_tup (q_cons r_int r_nil)) r_int) r_nil)))))) (s_cons (s_if (PW.pt (r_tor (q_tcmp c q_p (q_op (q_op (r_lst (q_cons (r_tup (q_cons q_s r_nil)) r_nil)) r_int) (q_op (r_lst (q_cons (r_tup (q_cons q_s (q_cons r_int r_nil))) r_nil)) r_int))) (r_tor (q_tcmp c q_p (r_lst r_nil)) (pw_or1 (q_tcmp c (q_gi G.k_MOST_CUT) r_int))))) (s_one (s_ret r_bl)) s_nil) (s_one (s_ret (q_cmp c (q_call d44 c (q_cons q_v (q_cons q_v (q_cons (r_tup (q_cons r_int (q_cons r_int r_nil))) (q_cons (r_tup (q_cons q_s r_nil)) r_nil))))) r_bl))))))))))))
end
end PB.K18
end

section
set_option Elab.async false
set_option linter.all false
set_option maxRecDepth 100000
set_option maxHeartbeats 0
namespace PB.K18
open PySem PySem.Spec PyProof.Rows L2
def dd0 : He.DefD := ⟨("is_int", none), "is_int", "is_int", defArgs s0, defBody s0, defScope s0, [], []⟩
def dd1 : He.DefD := ⟨("is_within", none), "is_within", "is_within", defArgs s1, defBody s1, defScope s1, [], []⟩
def dd2 : He.DefD := ⟨("is_thing_of", none), "is_thing_of", "is_thing_of", defArgs s2, defBody s2, defScope s2, [], []⟩
def dd3 : He.DefD := ⟨("is_pair_of", none), "is_pair_of", "is_pair_of", defArgs s3, defBody s3, defScope s3, [], []⟩
def dd7 : He.DefD := ⟨("reading_of", none), "reading_of", "reading_of", defArgs s7, defBody s7, defScope s7, [], []⟩
def dd8 : He.DefD := ⟨("ring_in", none), "ring_in", "ring_in", defArgs s8, defBody s8, defScope s8, [], []⟩
def dd6 : He.DefD := ⟨("next_in", none), "next_in", "next_in", defArgs s6, defBody s6, defScope s6, [], []⟩
def dd12 : He.DefD := ⟨("way_beside", none), "way_beside", "way_beside", defArgs s12, defBody s12, defScope s12, [], []⟩
def dd13 : He.DefD := ⟨("bar_in_orders", none), "bar_in", "bar_in", defArgs s13, defBody s13, defScope s13, [], []⟩
def dd14 : He.DefD := ⟨("is_order_of", none), "is_order_of", "is_order_of", defArgs s14, defBody s14, defScope s14, [], []⟩
def dd17 : He.DefD := ⟨("require_order", none), "require_order", "require_order", defArgs s17, defBody s17, defScope s17, [], []⟩
def dd9 : He.DefD := ⟨("reach_in", none), "reach_in", "reach_in", defArgs s9, defBody s9, defScope s9, [], []⟩
def dd15 : He.DefD := ⟨("up_in", none), "up_in", "up_in", defArgs s15, defBody s15, defScope s15, [], []⟩
def dd16 : He.DefD := ⟨("down_in", none), "down_in", "down_in", defArgs s16, defBody s16, defScope s16, [], []⟩
def dd18 : He.DefD := ⟨("least_of", none), "least_of", "least_of", defArgs s18, defBody s18, defScope s18, [], []⟩
def dd19 : He.DefD := ⟨("bounds_at", none), "bounds_at", "bounds_at", defArgs s19, defBody s19, defScope s19, [], []⟩
def dd20 : He.DefD := ⟨("bar_in_halls", none), "bar_in", "bar_in", defArgs s20, defBody s20, defScope s20, [], []⟩
def dd21 : He.DefD := ⟨("is_hall_of", none), "is_hall_of", "is_hall_of", defArgs s21, defBody s21, defScope s21, [], []⟩
def dd22 : He.DefD := ⟨("require_hall", none), "require_hall", "require_hall", defArgs s22, defBody s22, defScope s22, [], []⟩
def dd30 : He.DefD := ⟨("unlike_pairs", none), "unlike_pairs", "unlike_pairs", defArgs s30, defBody s30, defScope s30, [], []⟩
def dd31 : He.DefD := ⟨("missed_in", none), "missed_in", "missed_in", defArgs s31, defBody s31, defScope s31, [], []⟩
def dd32 : He.DefD := ⟨("bars_of", none), "bars_of", "bars_of", defArgs s32, defBody s32, defScope s32, [], []⟩
def dd34 : He.DefD := ⟨("require_map", none), "require_map", "require_map", defArgs s34, defBody s34, defScope s34, [], []⟩
def dd44 : He.DefD := ⟨("is_completion_paper", none), "is_completion_paper", "is_completion_paper", defArgs s44, defBody s44, defScope s44, [], []⟩
def dd46 : He.DefD := ⟨("_law_bag", none), "_law_bag", "_law_bag", defArgs s46, defBody s46, defScope s46, [], []⟩
def dd23 : He.DefD := ⟨("common_of", none), "common_of", "common_of", defArgs s23, defBody s23, defScope s23, [], []⟩
def dd24 : He.DefD := ⟨("upper_in_all", none), "upper_in_all", "upper_in_all", defArgs s24, defBody s24, defScope s24, [], []⟩
def dd25 : He.DefD := ⟨("lower_in_all", none), "lower_in_all", "lower_in_all", defArgs s25, defBody s25, defScope s25, [], []⟩
def dd26 : He.DefD := ⟨("around_in", none), "around_in", "around_in", defArgs s26, defBody s26, defScope s26, [], []⟩
def dd4 : He.DefD := ⟨("are_within", none), "are_within", "are_within", defArgs s4, defBody s4, defScope s4, [], []⟩
def dd5 : He.DefD := ⟨("require_lot", none), "require_lot", "require_lot", defArgs s5, defBody s5, defScope s5, [], []⟩
def dd33 : He.DefD := ⟨("require_order_lot", none), "require_order_lot", "require_order_lot", defArgs s33, defBody s33, defScope s33, [], []⟩
def dd35 : He.DefD := ⟨("is_cut", none), "is_cut", "is_cut", defArgs s35, defBody s35, defScope s35, [], []⟩
def dd36 : He.DefD := ⟨("cut_around", none), "cut_around", "cut_around", defArgs s36, defBody s36, defScope s36, [], []⟩
def dd37 : He.DefD := ⟨("upper_lot", none), "upper_lot", "upper_lot", defArgs s37, defBody s37, defScope s37, [], []⟩
def dd38 : He.DefD := ⟨("lower_lot", none), "lower_lot", "lower_lot", defArgs s38, defBody s38, defScope s38, [], []⟩
def dd27 : He.DefD := ⟨("cuts_in", none), "cuts_in", "cuts_in", defArgs s27, defBody s27, defScope s27, [], []⟩
def dd39 : He.DefD := ⟨("cuts", none), "cuts", "cuts", defArgs s39, defBody s39, defScope s39, [], []⟩
def dd10 : He.DefD := ⟨("covers_from", none), "covers_from", "covers_from", defArgs s10, defBody s10, defScope s10, [], []⟩
def dd11 : He.DefD := ⟨("order_from", none), "order_from", "order_from", defArgs s11, defBody s11, defScope s11, [], []⟩
def dd28 : He.DefD := ⟨("hall_of_cuts", none), "hall_of_cuts", "hall_of_cuts", defArgs s28, defBody s28, defScope s28, [], []⟩
def dd40 : He.DefD := ⟨("completion", none), "completion", "completion", defArgs s40, defBody s40, defScope s40, [], []⟩
def dd29 : He.DefD := ⟨("places_in", none), "places_in", "places_in", defArgs s29, defBody s29, defScope s29, [], []⟩
def dd41 : He.DefD := ⟨("places", none), "places", "places", defArgs s41, defBody s41, defScope s41, [], []⟩
def dd42 : He.DefD := ⟨("new_cuts", none), "new_cuts", "new_cuts", defArgs s42, defBody s42, defScope s42, [], []⟩
def dd43 : He.DefD := ⟨("completion_paper", none), "completion_paper", "completion_paper", defArgs s43, defBody s43, defScope s43, [], []⟩
def dd45 : He.DefD := ⟨("does_lie", none), "does_lie", "does_lie", defArgs s45, defBody s45, defScope s45, [], []⟩
def dd49 : He.DefD := ⟨("_law_met", none), "_law_met", "_law_met", defArgs s49, defBody s49, defScope s49, [], []⟩
def dd50 : He.DefD := ⟨("_law_all", none), "_law_all", "_law_all", defArgs s50, defBody s50, defScope s50, [], []⟩
def dd47 : He.DefD := ⟨("_law_draw", none), "_law_draw", "_law_draw", defArgs s47, defBody s47, defScope s47, [], []⟩
def dd48 : He.DefD := ⟨("_law_one_of", none), "_law_one_of", "_law_one_of", defArgs s48, defBody s48, defScope s48, [], []⟩
def dd51 : He.DefD := ⟨("_law_right", none), "_law_right", "_law_right", defArgs s51, defBody s51, defScope s51, [], []⟩
def dd52 : He.DefD := ⟨("law", none), "law", "law", defArgs s52, defBody s52, defScope s52, [], []⟩
def fns : List He.DefD := [dd0, dd1, dd2, dd3, dd7, dd8, dd6, dd12, dd13, dd14, dd17, dd9, dd15, dd16, dd18, dd19, dd20, dd21, dd22, dd30, dd31, dd32, dd34, dd44, dd46, dd23, dd24, dd25, dd26, dd4, dd5, dd33, dd35, dd36, dd37, dd38, dd27, dd39, dd10, dd11, dd28, dd40, dd29, dd41, dd42, dd43, dd45, dd49, dd50, dd47, dd48, dd51, dd52]
def fas : List He.Fa := [.glo "is_int", .glo "is_within", .glo "is_thing_of", .glo "is_pair_of", .glo "reading_of", .glo "ring_in", .glo "next_in", .glo "way_beside", .glo "bar_in_orders", .glo "is_order_of", .glo "require_order", .glo "reach_in", .glo "up_in", .glo "down_in", .glo "least_of", .glo "bounds_at", .glo "bar_in_halls", .glo "is_hall_of", .glo "require_hall", .glo "unlike_pairs", .glo "missed_in", .glo "bars_of", .glo "require_map", .glo "is_completion_paper", .glo "_law_bag", .glo "common_of", .glo "upper_in_all", .glo "lower_in_all", .glo "around_in", .glo "are_within", .glo "require_lot", .glo "require_order_lot", .glo "is_cut", .glo "cut_around", .glo "upper_lot", .glo "lower_lot", .glo "cuts_in", .glo "cuts", .glo "covers_from", .glo "order_from", .glo "hall_of_cuts", .glo "completion", .glo "places_in", .glo "places", .glo "new_cuts", .glo "completion_paper", .glo "does_lie", .glo "_law_met", .glo "_law_all", .glo "_law_draw", .glo "_law_one_of", .glo "_law_right", .glo "law", .free "abs", .free "all", .free "any", .free "bool", .free "enumerate", .free "int", .free "isinstance", .free "len", .free "list", .free "max", .free "min", .free "range", .free "sorted", .free "str", .free "sum", .free "tuple", .free "zip", .str "ABOVE" "above", .str "BELOW" "below", .str "COMPLETION" "completion", .str "FOLLOWS" "follows", .str "JOIN" "join", .str "MEET" "meet", .int "MOST_CUT" 16, .int "MOST_THINGS" 16, .str "ORDER" "order", .str "RING" "ring", .str "TWICE" "twice", .str "TWO_ABOVE" "two above", .str "TWO_BELOW" "two below", .exc "InvalidHall", .exc "InvalidLot", .exc "InvalidMap", .exc "InvalidOrder", .glo "InvalidOrder", .glo "InvalidHall", .glo "InvalidMap", .glo "InvalidLot", .glo "TooMany", .exm "BoundsError" "InvalidOrder" false, .exm "BoundsError" "InvalidHall" false, .exm "BoundsError" "InvalidMap" false, .exm "BoundsError" "InvalidLot" false, .exm "BoundsError" "TooMany" false, .exm "InvalidOrder" "InvalidOrder" true, .exm "InvalidOrder" "InvalidHall" false, .exm "InvalidOrder" "InvalidMap" false, .exm "InvalidOrder" "InvalidLot" false, .exm "InvalidOrder" "TooMany" false, .exm "InvalidHall" "InvalidOrder" false, .exm "InvalidHall" "InvalidHall" true, .exm "InvalidHall" "InvalidMap" false, .exm "InvalidHall" "InvalidLot" false, .exm "InvalidHall" "TooMany" false, .exm "InvalidMap" "InvalidOrder" false, .exm "InvalidMap" "InvalidHall" false, .exm "InvalidMap" "InvalidMap" true, .exm "InvalidMap" "InvalidLot" false, .exm "InvalidMap" "TooMany" false, .exm "InvalidLot" "InvalidOrder" false, .exm "InvalidLot" "InvalidHall" false, .exm "InvalidLot" "InvalidMap" false, .exm "InvalidLot" "InvalidLot" true, .exm "InvalidLot" "TooMany" false, .exm "TooMany" "InvalidOrder" false, .exm "TooMany" "InvalidHall" false, .exm "TooMany" "InvalidMap" false, .exm "TooMany" "InvalidLot" false, .exm "TooMany" "TooMany" true]
abbrev Row0 : PySem.W.OpenRow := PySem.W.OpenLaw.row PySem.Challenge.rw_bothbounds_k18_errors_of_cuts
def tf : List He.Defn := [("_law_all", none), ("_law_right", none)]
def exB (K : PySem.W.Frag) : Bool := !(Nat.beq (He.cT K ("_law_all", none)).2 (He.cT K ("_law_right", none)).2)
def tbs : List He.Tab := []
def sd_TooMany : SupD := ⟨"TooMany", "OverflowError", "OverflowError.__new__", "OverflowError.__init__", [.type "OverflowError", .type "ArithmeticError", .type "Exception", .type "BaseException", .type "object"], "limit", "/claim/cut.py", "TooMany.__init__"⟩
abbrev ms_TooMany : Stmt := meth (top 6)
def sv_TooMany : Bool × FnC := (true, some (("__init__" : Str), ("TooMany.__init__" : Str), defArgs ms_TooMany, FuncBody.stmts (defBody ms_TooMany), defScope ms_TooMany, mainGlobals, (["__class__"] : List Str), builtinsNs))
def sds : List SupD := [sd_TooMany]
def svs : List (Bool × FnC) := [sv_TooMany]
abbrev hk : PySem.W.Hook := hookZ 6 fas fns tbs tf exB sds svs
def ob (s : PySem.W.SharedT) : AlY := obsZ 6 fas fns tbs tf exB sds (HandSHeadRun.getT s)
theorem ob_eq (s : PySem.W.SharedT) : ob s = hk.obs s.abs := obsZ_eq (HandSHeadRun.getT_eq s)
def loose : List PySem.Str := (["BoundsError", "InvalidOrder", "InvalidHall", "InvalidMap", "InvalidLot", "TooMany", "is_int", "is_within", "is_thing_of", "is_pair_of", "are_within", "require_lot", "MOST_THINGS", "RING", "FOLLOWS", "TWICE", "next_in", "reading_of", "ring_in", "reach_in", "covers_from", "order_from", "way_beside", "bar_in", "bar_in_orders", "is_order_of", "up_in", "down_in", "require_order", "ABOVE"] : List PySem.Str) ++ (["BELOW", "TWO_ABOVE", "TWO_BELOW", "least_of", "bounds_at", "bar_in_halls", "is_hall_of", "require_hall", "MOST_CUT", "COMPLETION", "ORDER", "JOIN", "MEET", "common_of", "upper_in_all", "lower_in_all", "around_in", "cuts_in", "hall_of_cuts", "places_in", "unlike_pairs", "missed_in", "bars_of", "require_order_lot", "require_map", "is_cut", "cut_around", "upper_lot", "lower_lot", "cuts"] : List PySem.Str) ++ (["completion", "places", "new_cuts", "completion_paper", "is_completion_paper", "does_lie", "_law_bag", "_law_draw", "_law_one_of", "_law_met", "_law_all", "_law_right"] : List PySem.Str)
theorem run (w : World) : HandSHeadRun.RunEq Row0 (PySem.W.view Row0.prog [79]) hk ob 6000 loose w := by
  intro os
  kernel_rfl
end PB.K18
end

section
set_option Elab.async false
set_option linter.all false
set_option maxRecDepth 100000
set_option maxHeartbeats 0
namespace PB.K18
open PB
def two : T := (.tpd [(.int 2), (.tpd [])])
def cube : T := (.tpd [(.int 4), (.tpd [(.tpd [(.int 0), (.int 1)]), (.tpd [(.int 0), (.int 2)]), (.tpd [(.int 1), (.int 3)]), (.tpd [(.int 2), (.int 3)])])])
def crown : T := (.tpd [(.int 10), (.tpd [(.tpd [(.int 0), (.int 6)]), (.tpd [(.int 0), (.int 7)]), (.tpd [(.int 0), (.int 8)]), (.tpd [(.int 0), (.int 9)]), (.tpd [(.int 1), (.int 5)]), (.tpd [(.int 1), (.int 7)]), (.tpd [(.int 1), (.int 8)]), (.tpd [(.int 1), (.int 9)]), (.tpd [(.int 2), (.int 5)]), (.tpd [(.int 2), (.int 6)]), (.tpd [(.int 2), (.int 8)]), (.tpd [(.int 2), (.int 9)]), (.tpd [(.int 3), (.int 5)]), (.tpd [(.int 3), (.int 6)]), (.tpd [(.int 3), (.int 7)]), (.tpd [(.int 3), (.int 9)]), (.tpd [(.int 4), (.int 5)]), (.tpd [(.int 4), (.int 6)]), (.tpd [(.int 4), (.int 7)]), (.tpd [(.int 4), (.int 8)])])])
def zeros : T := .tup (List.replicate 10 (.int 0))
def order0 : T := .non
def order1 : T := (.int 0)
def order2 : T := (.tpd [])
def order3 : T := (.lst [])
def order4 : T := (.tpd [(.int 2), (.tpd [(.tpd [(.int 1), (.int 1)])])])
def order5 : T := (.tpd [(.int 3), (.tpd [(.tpd [(.int 0), (.int 1)]), (.tpd [(.int 1), (.int 2)]), (.tpd [(.int 0), (.int 2)])])])
def order6 : T := (.tpd [(.int 2), (.lst [(.tpd [(.int 0), (.int 1)])])])
def order7 : T := (.tpd [(.bl true), (.tpd [])])
def order8 : T := (.tpd [(.int 17), (.tpd [])])
def order9 : T := (.tpd [(.int 0), (.tpd [])])
def order10 : T := (.tpd [(.int 2), (.tpd [(.tpd [(.int 0), (.int 2)])])])
def order11 : T := (.dct [])
def order12 : T := (.tpd [(.int 2), (.tpd [(.tpd [(.int 0), (.int 1)]), (.tpd [(.int 0), (.int 1)])])])
def order13 : T := (.tpd [(.int 2), (.tpd [(.tpd [(.int 0), (.bl true)])])])
def order14 : T := (.tpd [(.int 3), (.tpd [(.tpd [(.int 1), (.int 2)]), (.tpd [(.int 0), (.int 1)])])])
def order15 : T := (.tpd [(.int 2), (.tpd [(.tpd [(.int 0), (.int 1)])]), (.int 0)])
def order16 : T := (.tpd [(.int 2), (.tpd [(.tpd [(.int 0), (.int 1)]), (.tpd [(.int 1), (.int 0)])])])
def orders : List T := [order0, order1, order2, order3, order4, order5, order6, order7, order8, order9, order10, order11, order12, order13, order14, order15, order16]
def lot0 : T := .non
def lot1 : T := (.lst [(.int 0)])
def lot2 : T := (.tpd [(.int 1), (.int 0)])
def lot3 : T := (.tpd [(.int 0), (.int 0)])
def lot4 : T := (.tpd [(.int 2)])
def lot5 : T := (.tpd [(.int (-1))])
def lot6 : T := (.tpd [(.bl true)])
def lot7 : T := (.tpd [(.str [48])])
def lot8 : T := (.int 0)
def lot9 : T := (.tpd [(.int 0), .non])
def lots : List T := [lot0, lot1, lot2, lot3, lot4, lot5, lot6, lot7, lot8, lot9]
def hall0 : T := .non
def hall1 : T := (.int 0)
def hall2 : T := (.tpd [])
def hall3 : T := (.lst [])
def hall4 : T := (.tpd [(.int 2), (.tpd [(.tpd [(.int 1), (.int 1)])])])
def hall5 : T := (.tpd [(.int 3), (.tpd [(.tpd [(.int 0), (.int 1)]), (.tpd [(.int 1), (.int 2)]), (.tpd [(.int 0), (.int 2)])])])
def hall6 : T := (.tpd [(.int 2), (.lst [(.tpd [(.int 0), (.int 1)])])])
def hall7 : T := (.tpd [(.bl true), (.tpd [])])
def hall8 : T := (.tpd [(.int 17), (.tpd [])])
def hall9 : T := (.tpd [(.int 0), (.tpd [])])
def hall10 : T := (.tpd [(.int 2), (.tpd [(.tpd [(.int 0), (.int 2)])])])
def hall11 : T := (.dct [])
def halls : List T := [hall0, hall1, hall2, hall3, hall4, hall5, hall6, hall7, hall8, hall9, hall10, hall11]
def row0 : T := .non
def row1 : T := (.lst [(.int 0), (.int 1)])
def row2 : T := (.tpd [(.int 0)])
def row3 : T := (.tpd [(.int 0), (.int 1), (.int 2)])
def row4 : T := (.tpd [(.int 0), (.int 4)])
def row5 : T := (.tpd [(.int 0), (.int (-1))])
def row6 : T := (.tpd [(.int 0), (.bl true)])
def row7 : T := (.tpd [(.int 0), (.str [49])])
def row8 : T := (.int 0)
def row9 : T := (.tpd [(.int 0), .non])
def rows : List T := [row0, row1, row2, row3, row4, row5, row6, row7, row8, row9]
theorem t14_0 : f14 [.sh order0] = (.ret (.bl false) .s (nos 1)) := by kernel_rfl
theorem t14_1 : f14 [.sh order1] = (.ret (.bl false) .s (nos 1)) := by kernel_rfl
theorem t14_2 : f14 [.sh order2] = (.ret (.bl false) .s (nos 1)) := by kernel_rfl
theorem t14_3 : f14 [.sh order3] = (.ret (.bl false) .s (nos 1)) := by kernel_rfl
theorem t14_4 : f14 [.sh order4] = (.ret (.bl false) .s (nos 1)) := by kernel_rfl
theorem t14_5 : f14 [.sh order5] = (.ret (.bl false) .s (nos 1)) := by kernel_rfl
theorem t14_6 : f14 [.sh order6] = (.ret (.bl false) .s (nos 1)) := by kernel_rfl
theorem t14_7 : f14 [.sh order7] = (.ret (.bl false) .s (nos 1)) := by kernel_rfl
theorem t14_8 : f14 [.sh order8] = (.ret (.bl false) .s (nos 1)) := by kernel_rfl
theorem t14_9 : f14 [.sh order9] = (.ret (.bl false) .s (nos 1)) := by kernel_rfl
theorem t14_10 : f14 [.sh order10] = (.ret (.bl false) .s (nos 1)) := by kernel_rfl
theorem t14_11 : f14 [.sh order11] = (.ret (.bl false) .s (nos 1)) := by kernel_rfl
theorem t14_12 : f14 [.sh order12] = (.ret (.bl false) .s (nos 1)) := by kernel_rfl
theorem t14_13 : f14 [.sh order13] = (.ret (.bl false) .s (nos 1)) := by kernel_rfl
theorem t14_14 : f14 [.sh order14] = (.ret (.bl false) .s (nos 1)) := by kernel_rfl
theorem t14_15 : f14 [.sh order15] = (.ret (.bl false) .s (nos 1)) := by kernel_rfl
theorem t14_16 : f14 [.sh order16] = (.ret (.bl false) .s (nos 1)) := by kernel_rfl
theorem t14_17 : f14 [.sh two] = (.ret (.bl true) .s (nos 1)) := by kernel_rfl
theorem t14_18 : f14 [.sh cube] = (.ret (.bl true) .s (nos 1)) := by kernel_rfl
theorem t14_19 : f14 [.sh crown] = (.ret (.bl true) .s (nos 1)) := by kernel_rfl
def m14 : Env → Rc := memo [([.is order0], (.ret (.bl false) .s (nos 1))), ([.is order1], (.ret (.bl false) .s (nos 1))), ([.is order2], (.ret (.bl false) .s (nos 1))), ([.is order3], (.ret (.bl false) .s (nos 1))), ([.is order4], (.ret (.bl false) .s (nos 1))), ([.is order5], (.ret (.bl false) .s (nos 1))), ([.is order6], (.ret (.bl false) .s (nos 1))), ([.is order7], (.ret (.bl false) .s (nos 1))), ([.is order8], (.ret (.bl false) .s (nos 1))), ([.is order9], (.ret (.bl false) .s (nos 1))), ([.is order10], (.ret (.bl false) .s (nos 1))), ([.is order11], (.ret (.bl false) .s (nos 1))), ([.is order12], (.ret (.bl false) .s (nos 1))), ([.is order13], (.ret (.bl false) .s (nos 1))), ([.is order14], (.ret (.bl false) .s (nos 1))), ([.is order15], (.ret (.bl false) .s (nos 1))), ([.is order16], (.ret (.bl false) .s (nos 1))), ([.is two], (.ret (.bl true) .s (nos 1))), ([.is cube], (.ret (.bl true) .s (nos 1))), ([.is crown], (.ret (.bl true) .s (nos 1)))]
theorem le14 : Le m14 f14 := (memo_cons (fit1 t14_0) (memo_cons (fit1 t14_1) (memo_cons (fit1 t14_2) (memo_cons (fit1 t14_3) (memo_cons (fit1 t14_4) (memo_cons (fit1 t14_5) (memo_cons (fit1 t14_6) (memo_cons (fit1 t14_7) (memo_cons (fit1 t14_8) (memo_cons (fit1 t14_9) (memo_cons (fit1 t14_10) (memo_cons (fit1 t14_11) (memo_cons (fit1 t14_12) (memo_cons (fit1 t14_13) (memo_cons (fit1 t14_14) (memo_cons (fit1 t14_15) (memo_cons (fit1 t14_16) (memo_cons (fit1 t14_17) (memo_cons (fit1 t14_18) (memo_cons (fit1 t14_19) memo_nil))))))))))))))))))))
def n17 : Env → Rc := mkF 1 1 (e17 m14)
def n21 : Env → Rc := mkF 1 0 (e21 m14 f20)
theorem t21_0 : n21 [.sh hall0] = (.ret (.bl false) .s (nos 1)) := by kernel_rfl
theorem t21_1 : n21 [.sh hall1] = (.ret (.bl false) .s (nos 1)) := by kernel_rfl
theorem t21_2 : n21 [.sh hall2] = (.ret (.bl false) .s (nos 1)) := by kernel_rfl
theorem t21_3 : n21 [.sh hall3] = (.ret (.bl false) .s (nos 1)) := by kernel_rfl
theorem t21_4 : n21 [.sh hall4] = (.ret (.bl false) .s (nos 1)) := by kernel_rfl
theorem t21_5 : n21 [.sh hall5] = (.ret (.bl false) .s (nos 1)) := by kernel_rfl
theorem t21_6 : n21 [.sh hall6] = (.ret (.bl false) .s (nos 1)) := by kernel_rfl
theorem t21_7 : n21 [.sh hall7] = (.ret (.bl false) .s (nos 1)) := by kernel_rfl
theorem t21_8 : n21 [.sh hall8] = (.ret (.bl false) .s (nos 1)) := by kernel_rfl
theorem t21_9 : n21 [.sh hall9] = (.ret (.bl false) .s (nos 1)) := by kernel_rfl
theorem t21_10 : n21 [.sh hall10] = (.ret (.bl false) .s (nos 1)) := by kernel_rfl
theorem t21_11 : n21 [.sh hall11] = (.ret (.bl false) .s (nos 1)) := by kernel_rfl
theorem t21_12 : n21 [.sh two] = (.ret (.bl false) .s (nos 1)) := by kernel_rfl
theorem t21_13 : n21 [.sh cube] = (.ret (.bl true) .s (nos 1)) := by kernel_rfl
def m21 : Env → Rc := memo [([.is hall0], (.ret (.bl false) .s (nos 1))), ([.is hall1], (.ret (.bl false) .s (nos 1))), ([.is hall2], (.ret (.bl false) .s (nos 1))), ([.is hall3], (.ret (.bl false) .s (nos 1))), ([.is hall4], (.ret (.bl false) .s (nos 1))), ([.is hall5], (.ret (.bl false) .s (nos 1))), ([.is hall6], (.ret (.bl false) .s (nos 1))), ([.is hall7], (.ret (.bl false) .s (nos 1))), ([.is hall8], (.ret (.bl false) .s (nos 1))), ([.is hall9], (.ret (.bl false) .s (nos 1))), ([.is hall10], (.ret (.bl false) .s (nos 1))), ([.is hall11], (.ret (.bl false) .s (nos 1))), ([.is two], (.ret (.bl false) .s (nos 1))), ([.is cube], (.ret (.bl true) .s (nos 1)))]
theorem le21 : Le m21 n21 := (memo_cons (fit1 t21_0) (memo_cons (fit1 t21_1) (memo_cons (fit1 t21_2) (memo_cons (fit1 t21_3) (memo_cons (fit1 t21_4) (memo_cons (fit1 t21_5) (memo_cons (fit1 t21_6) (memo_cons (fit1 t21_7) (memo_cons (fit1 t21_8) (memo_cons (fit1 t21_9) (memo_cons (fit1 t21_10) (memo_cons (fit1 t21_11) (memo_cons (fit1 t21_12) (memo_cons (fit1 t21_13) memo_nil))))))))))))))
def n22 : Env → Rc := mkF 1 1 (e22 m21)
def n44 : Env → Rc := mkF 4 2 (e44 f1 n17 n22 f32 f34)
def n33 : Env → Rc := mkF 2 0 (e33 f5 n17)
def n35 : Env → Rc := mkF 2 0 (e35 f26 n33)
def n36 : Env → Rc := mkF 2 0 (e36 f26 n33)
def n37 : Env → Rc := mkF 2 0 (e37 f24 n33)
def n38 : Env → Rc := mkF 2 0 (e38 f25 n33)
theorem t27_0 : f27 [.sh two] = (.ret (.lst [(.tup []), (.tup [(.int 0)]), (.tup [(.int 1)]), (.tup [(.int 0), (.int 1)])]) .f (nos 1)) := by kernel_rfl
theorem t27_1 : f27 [.sh crown] = (.exc 6 (.int 16)) := by kernel_rfl
def m27 : Env → Rc := memo [([.is two], (.ret (.lst [(.tup []), (.tup [(.int 0)]), (.tup [(.int 1)]), (.tup [(.int 0), (.int 1)])]) .f (nos 1))), ([.is crown], (.exc 6 (.int 16)))]
theorem le27 : Le m27 f27 := (memo_cons (fit1 t27_0) (memo_cons (fit1 t27_1) memo_nil))
def n39 : Env → Rc := mkF 1 0 (e39 n17 m27)
def n40 : Env → Rc := mkF 1 0 (e40 n17 m27 f28)
def n41 : Env → Rc := mkF 1 0 (e41 n17 m27 f29)
def n42 : Env → Rc := mkF 1 2 (e42 f16 n17 m27)
def n43 : Env → Rc := mkF 3 1 (e43 n17 n22 f32 f34)
def n45 : Env → Rc := mkF 3 0 (e45 n17 f30 f34)
def n50 : Env → Rc := mkF 4 1 (e50 n35 n36 n37 n38 n39 n40 n41 n42 n43 n44 n45)
def trO : T := (.lst [(.tpd [(.str [111, 114, 100, 101, 114])]), (.tpd [(.str [111, 114, 100, 101, 114])]), (.tpd [(.str [111, 114, 100, 101, 114])]), (.tpd [(.str [111, 114, 100, 101, 114])]), (.tpd [(.str [111, 114, 100, 101, 114])]), (.tpd [(.str [111, 114, 100, 101, 114])]), (.tpd [(.str [111, 114, 100, 101, 114])]), (.tpd [(.str [111, 114, 100, 101, 114])]), (.tpd [(.str [111, 114, 100, 101, 114])]), (.tpd [(.str [111, 114, 100, 101, 114])]), (.tpd [(.str [111, 114, 100, 101, 114])])])
def rO : Rc := .ret trO .f (nos 4)
def trL : T := (.lst [(.tpd [(.str [108, 111, 116])]), (.tpd [(.str [108, 111, 116])]), (.tpd [(.str [108, 111, 116])]), (.tpd [(.str [108, 111, 116])]), (.tpd [(.str [104, 97, 108, 108])]), (.tpd [(.str [104, 97, 108, 108])]), (.tpd [(.str [111, 114, 100, 101, 114])]), (.tpd [(.str [102, 105, 110, 101])]), (.tpd [(.str [102, 105, 110, 101])]), (.tpd [(.str [102, 105, 110, 101])]), (.tpd [(.str [102, 105, 110, 101])])])
def rL : Rc := .ret trL .f (nos 4)
def trC : T := (.lst [(.tpd [(.str [102, 105, 110, 101])]), (.tpd [(.str [102, 105, 110, 101])]), (.tpd [(.str [102, 105, 110, 101])]), (.tpd [(.str [102, 105, 110, 101])]), (.tpd [(.str [104, 97, 108, 108])]), (.tpd [(.str [104, 97, 108, 108])]), (.tpd [(.str [102, 105, 110, 101])]), (.tpd [(.str [102, 105, 110, 101])]), (.tpd [(.str [102, 105, 110, 101])]), (.tpd [(.str [102, 105, 110, 101])]), (.tpd [(.str [102, 105, 110, 101])])])
def rC : Rc := .ret trC .f (nos 4)
def trD : T := (.lst [(.tpd [(.str [102, 105, 110, 101])]), (.tpd [(.str [102, 105, 110, 101])]), (.tpd [(.str [102, 105, 110, 101])]), (.tpd [(.str [102, 105, 110, 101])]), (.tpd [(.str [109, 97, 112])]), (.tpd [(.str [109, 97, 112])]), (.tpd [(.str [109, 97, 112])]), (.tpd [(.str [102, 105, 110, 101])]), (.tpd [(.str [102, 105, 110, 101])]), (.tpd [(.str [102, 105, 110, 101])]), (.tpd [(.str [102, 105, 110, 101])])])
def rD : Rc := .ret trD .f (nos 4)
def trE : T := (.lst [(.tpd [(.str [102, 105, 110, 101])]), (.tpd [(.str [102, 105, 110, 101])]), (.tpd [(.str [102, 105, 110, 101])]), (.tpd [(.str [102, 105, 110, 101])]), (.tpd [(.str [102, 105, 110, 101])]), (.tpd [(.str [102, 105, 110, 101])]), (.tpd [(.str [102, 105, 110, 101])]), (.tpd [(.str [102, 105, 110, 101])]), (.tpd [(.str [102, 105, 110, 101])]), (.tpd [(.str [102, 105, 110, 101])]), (.tpd [(.str [102, 105, 110, 101])])])
def rE : Rc := .ret trE .f (nos 4)
def trF : T := (.lst [(.tpd [(.str [102, 105, 110, 101])]), (.tpd [(.str [102, 105, 110, 101])]), (.tpd [(.str [102, 105, 110, 101])]), (.tpd [(.str [102, 105, 110, 101])]), (.tpd [(.str [102, 105, 110, 101])]), (.tpd [(.str [102, 105, 110, 101])]), (.tpd [(.str [102, 105, 110, 101])]), (.tpd [(.str [109, 97, 110, 121]), (.int 16)]), (.tpd [(.str [109, 97, 110, 121]), (.int 16)]), (.tpd [(.str [109, 97, 110, 121]), (.int 16)]), (.tpd [(.str [109, 97, 110, 121]), (.int 16)])])
def rF : Rc := .ret trF .f (nos 4)
theorem uA (x y p r : T) (hx : x ∈ orders) (hy : y ∈ halls) : n50 [.sh x, .sh p, .sh y, .sh r] = rO := by
  simp only [orders, List.mem_cons, List.not_mem_nil, or_false] at hx
  simp only [halls, List.mem_cons, List.not_mem_nil, or_false] at hy
  rcases hx with rfl | rfl | rfl | rfl | rfl | rfl | rfl | rfl | rfl | rfl | rfl | rfl | rfl | rfl | rfl | rfl | rfl <;> rcases hy with rfl | rfl | rfl | rfl | rfl | rfl | rfl | rfl | rfl | rfl | rfl | rfl <;> kernel_rfl
theorem uB (x y r : T) (hx : x ∈ lots) (hy : y ∈ halls) : n50 [.sh two, .sh x, .sh y, .sh r] = rL := by
  simp only [lots, List.mem_cons, List.not_mem_nil, or_false] at hx
  simp only [halls, List.mem_cons, List.not_mem_nil, or_false] at hy
  rcases hx with rfl | rfl | rfl | rfl | rfl | rfl | rfl | rfl | rfl | rfl <;> rcases hy with rfl | rfl | rfl | rfl | rfl | rfl | rfl | rfl | rfl | rfl | rfl | rfl <;> kernel_rfl
theorem uC : n50 [.sh two, .sh (.tpd [.int 0]), .sh two, .sh (.tpd [.int 0, .int 1])] = rC := by kernel_rfl
theorem uD : ∀ x ∈ rows, n50 [.sh two, .sh (.tpd []), .sh cube, .sh x] = rD := by
  intro x hx
  simp only [rows, List.mem_cons, List.not_mem_nil, or_false] at hx
  rcases hx with rfl | rfl | rfl | rfl | rfl | rfl | rfl | rfl | rfl | rfl <;> (kernel_rfl)
theorem uE : n50 [.sh two, .sh (.tpd [.int 0, .int 1]), .sh cube, .sh (.tpd [.int 3, .int 3])] = rE := by kernel_rfl
theorem uF : n45 [.sh two, .sh two, .sh (.tpd [.int 0, .int 2])] = .exc 4 .non := by kernel_rfl
theorem t50_0 : n50 [.sh crown, .sh (.tpd [.int 0]), .sh cube, .sh zeros] = rF := by kernel_rfl
def n51 : Env → Rc := mkF 1 7 (e51 n45 f48 f48 f48 f48 n50 n50 n50 n50 n50)
def n52 : Env → Rc := mkF 1 13 (e52 n44 f46 n50 n51)
end PB.K18
end

section
set_option Elab.async false
set_option linter.all false
set_option maxRecDepth 100000
set_option maxHeartbeats 0
namespace PB.K18
open PB
theorem log_lt {n k : Nat} (h : n < 2 ^ k) (hk : 0 < k) : n.log2 < k := by
  by_cases hn : n = 0
  · subst hn; exact hk
  · exact (Nat.log2_lt hn).mpr h
theorem mul_ok {i j : Int} (h1 : 0 ≤ i) (h2 : i < 2 ^ 250) (h3 : 0 ≤ j) (h4 : j < 2 ^ 250) : mulOk i j = true := by
  have a : i.natAbs.log2 < 250 := log_lt (by omega) (by decide)
  have b : j.natAbs.log2 < 250 := log_lt (by omega) (by decide)
  unfold mulOk
  exact Nat.blt_eq.mpr (by omega)
theorem mulT_int {i j : Int} (h : mulOk i j = true) : mulT (.int i) (.int j) = some ⟨.int (i * j), .s⟩ := by
  show cond (mulOk i j) _ _ = _
  rw [h]; rfl
def sack (g s : Int) : T := .lst [.int g, .int s]
abbrev P1 : Int := 2 ^ 61 - 1
abbrev NxtV (s : Int) : Int := (s * 6364136223 + 1442695041) % P1
def M1 : EV := (opK .mul (ixK (rdP 0) (cK (.int 1))) (cK (.int 6364136223)))
def e47' (m1 : EV) : ES := (sqK (iteK (tvK (cmpK .gt (ixK (rdP 0) (cK (.int 0))) (cK (.int 0)))) (sqK (asgK (setSlot 2) (opK .mod (bltK .int (consK (ixK (rdP 0) (cK (.int 0))) nilK)) (rdP 1))) (sqK (asgK (tsK 0 (cK (.int 0))) (opK .fdiv (ixK (rdP 0) (cK (.int 0))) (rdP 1))) (rtvK 2))) skipK) (sqK (asgK (tsK 0 (cK (.int 1))) (opK .mod (bltK .int (consK (opK .add m1 (cK (.int 1442695041))) nilK)) (opK .sub (opK .pow (cK (.int 2)) (cK (.int 61))) (cK (.int 1))))) (retK (opK .mod (bltK .int (consK (opK .fdiv (ixK (rdP 0) (cK (.int 1))) (cK (.int 65537))) nilK)) (rdP 1)))))
theorem drawP_10 (m : Nat) (s : Int) : f47 [.ow true (sack (.ofNat (m + 1)) s), .sh (.int 10)] = .ret (.int (Int.ofNat (m + 1) % 10)) .s [.ow true (sack (Int.ofNat (m + 1) / 10) s), .no] := by kernel_rfl
theorem drawZ_10 (s : Int) (h1 : mulOk s 6364136223 = true) : f47 [.ow true (sack 0 s), .sh (.int 10)] = .ret (.int (NxtV s / 65537 % 10)) .s [.ow true (sack 0 (NxtV s)), .no] := by
  have a0 : f47 [.ow true (sack 0 s), .sh (.int 10)] = mkF 2 1 (e47' M1) [.ow true (sack 0 s), .sh (.int 10)] := by kernel_rfl
  have a1 : mkF 2 1 (e47' M1) [.ow true (sack 0 s), .sh (.int 10)] = mkF 2 1 (e47' (fun _ => M1 [.ow true (sack 0 s), .sh (.int 10), .no])) [.ow true (sack 0 s), .sh (.int 10)] := by kernel_rfl
  have b1 : M1 [.ow true (sack 0 s), .sh (.int 10), .no] = .ok ⟨.int (s * 6364136223), .s⟩ [.ow true (sack 0 s), .sh (.int 10), .no] :=
    (show M1 [.ow true (sack 0 s), .sh (.int 10), .no] = ofOpt (mulT (.int s) (.int 6364136223)) [.ow true (sack 0 s), .sh (.int 10), .no] by kernel_rfl).trans (by rw [mulT_int h1]; rfl)
  rw [a0, a1, b1]
  kernel_rfl
theorem drawP_12 (m : Nat) (s : Int) : f47 [.ow true (sack (.ofNat (m + 1)) s), .sh (.int 12)] = .ret (.int (Int.ofNat (m + 1) % 12)) .s [.ow true (sack (Int.ofNat (m + 1) / 12) s), .no] := by kernel_rfl
theorem drawZ_12 (s : Int) (h1 : mulOk s 6364136223 = true) : f47 [.ow true (sack 0 s), .sh (.int 12)] = .ret (.int (NxtV s / 65537 % 12)) .s [.ow true (sack 0 (NxtV s)), .no] := by
  have a0 : f47 [.ow true (sack 0 s), .sh (.int 12)] = mkF 2 1 (e47' M1) [.ow true (sack 0 s), .sh (.int 12)] := by kernel_rfl
  have a1 : mkF 2 1 (e47' M1) [.ow true (sack 0 s), .sh (.int 12)] = mkF 2 1 (e47' (fun _ => M1 [.ow true (sack 0 s), .sh (.int 12), .no])) [.ow true (sack 0 s), .sh (.int 12)] := by kernel_rfl
  have b1 : M1 [.ow true (sack 0 s), .sh (.int 12), .no] = .ok ⟨.int (s * 6364136223), .s⟩ [.ow true (sack 0 s), .sh (.int 12), .no] :=
    (show M1 [.ow true (sack 0 s), .sh (.int 12), .no] = ofOpt (mulT (.int s) (.int 6364136223)) [.ow true (sack 0 s), .sh (.int 12), .no] by kernel_rfl).trans (by rw [mulT_int h1]; rfl)
  rw [a0, a1, b1]
  kernel_rfl
theorem drawP_17 (m : Nat) (s : Int) : f47 [.ow true (sack (.ofNat (m + 1)) s), .sh (.int 17)] = .ret (.int (Int.ofNat (m + 1) % 17)) .s [.ow true (sack (Int.ofNat (m + 1) / 17) s), .no] := by kernel_rfl
theorem drawZ_17 (s : Int) (h1 : mulOk s 6364136223 = true) : f47 [.ow true (sack 0 s), .sh (.int 17)] = .ret (.int (NxtV s / 65537 % 17)) .s [.ow true (sack 0 (NxtV s)), .no] := by
  have a0 : f47 [.ow true (sack 0 s), .sh (.int 17)] = mkF 2 1 (e47' M1) [.ow true (sack 0 s), .sh (.int 17)] := by kernel_rfl
  have a1 : mkF 2 1 (e47' M1) [.ow true (sack 0 s), .sh (.int 17)] = mkF 2 1 (e47' (fun _ => M1 [.ow true (sack 0 s), .sh (.int 17), .no])) [.ow true (sack 0 s), .sh (.int 17)] := by kernel_rfl
  have b1 : M1 [.ow true (sack 0 s), .sh (.int 17), .no] = .ok ⟨.int (s * 6364136223), .s⟩ [.ow true (sack 0 s), .sh (.int 17), .no] :=
    (show M1 [.ow true (sack 0 s), .sh (.int 17), .no] = ofOpt (mulT (.int s) (.int 6364136223)) [.ow true (sack 0 s), .sh (.int 17), .no] by kernel_rfl).trans (by rw [mulT_int h1]; rfl)
  rw [a0, a1, b1]
  kernel_rfl
structure Ok (b : T) : Prop where
  ex : ∃ g s : Int, b = sack g s ∧ 0 ≤ g ∧ 0 ≤ s ∧ s < 2 ^ 200
theorem draw10 {b : T} (h : Ok b) : ∃ (r : Int) (b' : T), Ok b' ∧ 0 ≤ r ∧ r < 10 ∧ f47 [.ow true b, .sh (.int 10)] = .ret (.int r) .s [.ow true b', .no] := by
  obtain ⟨g, s, rfl, hg, hs, hs2⟩ := h.ex
  obtain ⟨m, rfl⟩ := Int.eq_ofNat_of_zero_le hg
  cases m with
  | succ m => exact ⟨_, _, ⟨_, s, rfl, Int.ediv_nonneg (by omega) (by omega), hs, hs2⟩, Int.emod_nonneg _ (by omega), Int.emod_lt_of_pos _ (by omega), drawP_10 m s⟩
  | zero =>
    have o1 : 0 ≤ NxtV s := Int.emod_nonneg _ (by decide)
    have o2 : NxtV s < 2 ^ 61 - 1 := Int.emod_lt_of_pos _ (by decide)
    have big2 : (2 : Int) ^ 200 < 2 ^ 250 := by decide
    have big3 : (2 : Int) ^ 61 - 1 < 2 ^ 200 := by decide
    refine ⟨_, _, ⟨0, NxtV s, rfl, by omega, o1, Int.lt_trans o2 big3⟩, Int.emod_nonneg _ (by omega), Int.emod_lt_of_pos _ (by omega), drawZ_10 s (mul_ok hs (Int.lt_trans hs2 big2) (by decide) (by decide))⟩
theorem draw12 {b : T} (h : Ok b) : ∃ (r : Int) (b' : T), Ok b' ∧ 0 ≤ r ∧ r < 12 ∧ f47 [.ow true b, .sh (.int 12)] = .ret (.int r) .s [.ow true b', .no] := by
  obtain ⟨g, s, rfl, hg, hs, hs2⟩ := h.ex
  obtain ⟨m, rfl⟩ := Int.eq_ofNat_of_zero_le hg
  cases m with
  | succ m => exact ⟨_, _, ⟨_, s, rfl, Int.ediv_nonneg (by omega) (by omega), hs, hs2⟩, Int.emod_nonneg _ (by omega), Int.emod_lt_of_pos _ (by omega), drawP_12 m s⟩
  | zero =>
    have o1 : 0 ≤ NxtV s := Int.emod_nonneg _ (by decide)
    have o2 : NxtV s < 2 ^ 61 - 1 := Int.emod_lt_of_pos _ (by decide)
    have big2 : (2 : Int) ^ 200 < 2 ^ 250 := by decide
    have big3 : (2 : Int) ^ 61 - 1 < 2 ^ 200 := by decide
    refine ⟨_, _, ⟨0, NxtV s, rfl, by omega, o1, Int.lt_trans o2 big3⟩, Int.emod_nonneg _ (by omega), Int.emod_lt_of_pos _ (by omega), drawZ_12 s (mul_ok hs (Int.lt_trans hs2 big2) (by decide) (by decide))⟩
theorem draw17 {b : T} (h : Ok b) : ∃ (r : Int) (b' : T), Ok b' ∧ 0 ≤ r ∧ r < 17 ∧ f47 [.ow true b, .sh (.int 17)] = .ret (.int r) .s [.ow true b', .no] := by
  obtain ⟨g, s, rfl, hg, hs, hs2⟩ := h.ex
  obtain ⟨m, rfl⟩ := Int.eq_ofNat_of_zero_le hg
  cases m with
  | succ m => exact ⟨_, _, ⟨_, s, rfl, Int.ediv_nonneg (by omega) (by omega), hs, hs2⟩, Int.emod_nonneg _ (by omega), Int.emod_lt_of_pos _ (by omega), drawP_17 m s⟩
  | zero =>
    have o1 : 0 ≤ NxtV s := Int.emod_nonneg _ (by decide)
    have o2 : NxtV s < 2 ^ 61 - 1 := Int.emod_lt_of_pos _ (by decide)
    have big2 : (2 : Int) ^ 200 < 2 ^ 250 := by decide
    have big3 : (2 : Int) ^ 61 - 1 < 2 ^ 200 := by decide
    refine ⟨_, _, ⟨0, NxtV s, rfl, by omega, o1, Int.lt_trans o2 big3⟩, Int.emod_nonneg _ (by omega), Int.emod_lt_of_pos _ (by omega), drawZ_17 s (mul_ok hs (Int.lt_trans hs2 big2) (by decide) (by decide))⟩
theorem pick_order {b : T} (h : Ok b) : ∃ (x b' : T), Ok b' ∧ x ∈ orders ∧ f48 [.ow true b, .ow false (.lst orders)] = .ret x .s [.ow true b', .no] := by
  obtain ⟨r, b', ok, h1, h2, e⟩ := draw17 h
  have a0 : f48 [.ow true b, .ow false (.lst orders)] = mkF 2 0 (e48 (fun _ => f47 [.ow true b, .sh (.int 17)])) [.ow true b, .ow false (.lst orders)] := by kernel_rfl
  rw [e] at a0
  obtain ⟨m, rfl⟩ := Int.eq_ofNat_of_zero_le h1
  have hm : m < 17 := by omega
  match m, hm with
  | 0, _ => exact ⟨order0, b', ok, (.head _), a0.trans (by kernel_rfl)⟩
  | 1, _ => exact ⟨order1, b', ok, (.tail _ (.head _)), a0.trans (by kernel_rfl)⟩
  | 2, _ => exact ⟨order2, b', ok, (.tail _ (.tail _ (.head _))), a0.trans (by kernel_rfl)⟩
  | 3, _ => exact ⟨order3, b', ok, (.tail _ (.tail _ (.tail _ (.head _)))), a0.trans (by kernel_rfl)⟩
  | 4, _ => exact ⟨order4, b', ok, (.tail _ (.tail _ (.tail _ (.tail _ (.head _))))), a0.trans (by kernel_rfl)⟩
  | 5, _ => exact ⟨order5, b', ok, (.tail _ (.tail _ (.tail _ (.tail _ (.tail _ (.head _)))))), a0.trans (by kernel_rfl)⟩
  | 6, _ => exact ⟨order6, b', ok, (.tail _ (.tail _ (.tail _ (.tail _ (.tail _ (.tail _ (.head _))))))), a0.trans (by kernel_rfl)⟩
  | 7, _ => exact ⟨order7, b', ok, (.tail _ (.tail _ (.tail _ (.tail _ (.tail _ (.tail _ (.tail _ (.head _)))))))), a0.trans (by kernel_rfl)⟩
  | 8, _ => exact ⟨order8, b', ok, (.tail _ (.tail _ (.tail _ (.tail _ (.tail _ (.tail _ (.tail _ (.tail _ (.head _))))))))), a0.trans (by kernel_rfl)⟩
  | 9, _ => exact ⟨order9, b', ok, (.tail _ (.tail _ (.tail _ (.tail _ (.tail _ (.tail _ (.tail _ (.tail _ (.tail _ (.head _)))))))))), a0.trans (by kernel_rfl)⟩
  | 10, _ => exact ⟨order10, b', ok, (.tail _ (.tail _ (.tail _ (.tail _ (.tail _ (.tail _ (.tail _ (.tail _ (.tail _ (.tail _ (.head _))))))))))), a0.trans (by kernel_rfl)⟩
  | 11, _ => exact ⟨order11, b', ok, (.tail _ (.tail _ (.tail _ (.tail _ (.tail _ (.tail _ (.tail _ (.tail _ (.tail _ (.tail _ (.tail _ (.head _)))))))))))), a0.trans (by kernel_rfl)⟩
  | 12, _ => exact ⟨order12, b', ok, (.tail _ (.tail _ (.tail _ (.tail _ (.tail _ (.tail _ (.tail _ (.tail _ (.tail _ (.tail _ (.tail _ (.tail _ (.head _))))))))))))), a0.trans (by kernel_rfl)⟩
  | 13, _ => exact ⟨order13, b', ok, (.tail _ (.tail _ (.tail _ (.tail _ (.tail _ (.tail _ (.tail _ (.tail _ (.tail _ (.tail _ (.tail _ (.tail _ (.tail _ (.head _)))))))))))))), a0.trans (by kernel_rfl)⟩
  | 14, _ => exact ⟨order14, b', ok, (.tail _ (.tail _ (.tail _ (.tail _ (.tail _ (.tail _ (.tail _ (.tail _ (.tail _ (.tail _ (.tail _ (.tail _ (.tail _ (.tail _ (.head _))))))))))))))), a0.trans (by kernel_rfl)⟩
  | 15, _ => exact ⟨order15, b', ok, (.tail _ (.tail _ (.tail _ (.tail _ (.tail _ (.tail _ (.tail _ (.tail _ (.tail _ (.tail _ (.tail _ (.tail _ (.tail _ (.tail _ (.tail _ (.head _)))))))))))))))), a0.trans (by kernel_rfl)⟩
  | 16, _ => exact ⟨order16, b', ok, (.tail _ (.tail _ (.tail _ (.tail _ (.tail _ (.tail _ (.tail _ (.tail _ (.tail _ (.tail _ (.tail _ (.tail _ (.tail _ (.tail _ (.tail _ (.tail _ (.head _))))))))))))))))), a0.trans (by kernel_rfl)⟩
  | _ + 17, hm => omega
theorem pick_lot {b : T} (h : Ok b) : ∃ (x b' : T), Ok b' ∧ x ∈ lots ∧ f48 [.ow true b, .ow false (.lst lots)] = .ret x .s [.ow true b', .no] := by
  obtain ⟨r, b', ok, h1, h2, e⟩ := draw10 h
  have a0 : f48 [.ow true b, .ow false (.lst lots)] = mkF 2 0 (e48 (fun _ => f47 [.ow true b, .sh (.int 10)])) [.ow true b, .ow false (.lst lots)] := by kernel_rfl
  rw [e] at a0
  obtain ⟨m, rfl⟩ := Int.eq_ofNat_of_zero_le h1
  have hm : m < 10 := by omega
  match m, hm with
  | 0, _ => exact ⟨lot0, b', ok, (.head _), a0.trans (by kernel_rfl)⟩
  | 1, _ => exact ⟨lot1, b', ok, (.tail _ (.head _)), a0.trans (by kernel_rfl)⟩
  | 2, _ => exact ⟨lot2, b', ok, (.tail _ (.tail _ (.head _))), a0.trans (by kernel_rfl)⟩
  | 3, _ => exact ⟨lot3, b', ok, (.tail _ (.tail _ (.tail _ (.head _)))), a0.trans (by kernel_rfl)⟩
  | 4, _ => exact ⟨lot4, b', ok, (.tail _ (.tail _ (.tail _ (.tail _ (.head _))))), a0.trans (by kernel_rfl)⟩
  | 5, _ => exact ⟨lot5, b', ok, (.tail _ (.tail _ (.tail _ (.tail _ (.tail _ (.head _)))))), a0.trans (by kernel_rfl)⟩
  | 6, _ => exact ⟨lot6, b', ok, (.tail _ (.tail _ (.tail _ (.tail _ (.tail _ (.tail _ (.head _))))))), a0.trans (by kernel_rfl)⟩
  | 7, _ => exact ⟨lot7, b', ok, (.tail _ (.tail _ (.tail _ (.tail _ (.tail _ (.tail _ (.tail _ (.head _)))))))), a0.trans (by kernel_rfl)⟩
  | 8, _ => exact ⟨lot8, b', ok, (.tail _ (.tail _ (.tail _ (.tail _ (.tail _ (.tail _ (.tail _ (.tail _ (.head _))))))))), a0.trans (by kernel_rfl)⟩
  | 9, _ => exact ⟨lot9, b', ok, (.tail _ (.tail _ (.tail _ (.tail _ (.tail _ (.tail _ (.tail _ (.tail _ (.tail _ (.head _)))))))))), a0.trans (by kernel_rfl)⟩
  | _ + 10, hm => omega
theorem pick_hall {b : T} (h : Ok b) : ∃ (x b' : T), Ok b' ∧ x ∈ halls ∧ f48 [.ow true b, .sh (.lst halls)] = .ret x .s [.ow true b', .no] := by
  obtain ⟨r, b', ok, h1, h2, e⟩ := draw12 h
  have a0 : f48 [.ow true b, .sh (.lst halls)] = mkF 2 0 (e48 (fun _ => f47 [.ow true b, .sh (.int 12)])) [.ow true b, .sh (.lst halls)] := by kernel_rfl
  rw [e] at a0
  obtain ⟨m, rfl⟩ := Int.eq_ofNat_of_zero_le h1
  have hm : m < 12 := by omega
  match m, hm with
  | 0, _ => exact ⟨hall0, b', ok, (.head _), a0.trans (by kernel_rfl)⟩
  | 1, _ => exact ⟨hall1, b', ok, (.tail _ (.head _)), a0.trans (by kernel_rfl)⟩
  | 2, _ => exact ⟨hall2, b', ok, (.tail _ (.tail _ (.head _))), a0.trans (by kernel_rfl)⟩
  | 3, _ => exact ⟨hall3, b', ok, (.tail _ (.tail _ (.tail _ (.head _)))), a0.trans (by kernel_rfl)⟩
  | 4, _ => exact ⟨hall4, b', ok, (.tail _ (.tail _ (.tail _ (.tail _ (.head _))))), a0.trans (by kernel_rfl)⟩
  | 5, _ => exact ⟨hall5, b', ok, (.tail _ (.tail _ (.tail _ (.tail _ (.tail _ (.head _)))))), a0.trans (by kernel_rfl)⟩
  | 6, _ => exact ⟨hall6, b', ok, (.tail _ (.tail _ (.tail _ (.tail _ (.tail _ (.tail _ (.head _))))))), a0.trans (by kernel_rfl)⟩
  | 7, _ => exact ⟨hall7, b', ok, (.tail _ (.tail _ (.tail _ (.tail _ (.tail _ (.tail _ (.tail _ (.head _)))))))), a0.trans (by kernel_rfl)⟩
  | 8, _ => exact ⟨hall8, b', ok, (.tail _ (.tail _ (.tail _ (.tail _ (.tail _ (.tail _ (.tail _ (.tail _ (.head _))))))))), a0.trans (by kernel_rfl)⟩
  | 9, _ => exact ⟨hall9, b', ok, (.tail _ (.tail _ (.tail _ (.tail _ (.tail _ (.tail _ (.tail _ (.tail _ (.tail _ (.head _)))))))))), a0.trans (by kernel_rfl)⟩
  | 10, _ => exact ⟨hall10, b', ok, (.tail _ (.tail _ (.tail _ (.tail _ (.tail _ (.tail _ (.tail _ (.tail _ (.tail _ (.tail _ (.head _))))))))))), a0.trans (by kernel_rfl)⟩
  | 11, _ => exact ⟨hall11, b', ok, (.tail _ (.tail _ (.tail _ (.tail _ (.tail _ (.tail _ (.tail _ (.tail _ (.tail _ (.tail _ (.tail _ (.head _)))))))))))), a0.trans (by kernel_rfl)⟩
  | _ + 12, hm => omega
theorem pick_row {b : T} (h : Ok b) : ∃ (x b' : T), Ok b' ∧ x ∈ rows ∧ f48 [.ow true b, .ow false (.lst rows)] = .ret x .s [.ow true b', .no] := by
  obtain ⟨r, b', ok, h1, h2, e⟩ := draw10 h
  have a0 : f48 [.ow true b, .ow false (.lst rows)] = mkF 2 0 (e48 (fun _ => f47 [.ow true b, .sh (.int 10)])) [.ow true b, .ow false (.lst rows)] := by kernel_rfl
  rw [e] at a0
  obtain ⟨m, rfl⟩ := Int.eq_ofNat_of_zero_le h1
  have hm : m < 10 := by omega
  match m, hm with
  | 0, _ => exact ⟨row0, b', ok, (.head _), a0.trans (by kernel_rfl)⟩
  | 1, _ => exact ⟨row1, b', ok, (.tail _ (.head _)), a0.trans (by kernel_rfl)⟩
  | 2, _ => exact ⟨row2, b', ok, (.tail _ (.tail _ (.head _))), a0.trans (by kernel_rfl)⟩
  | 3, _ => exact ⟨row3, b', ok, (.tail _ (.tail _ (.tail _ (.head _)))), a0.trans (by kernel_rfl)⟩
  | 4, _ => exact ⟨row4, b', ok, (.tail _ (.tail _ (.tail _ (.tail _ (.head _))))), a0.trans (by kernel_rfl)⟩
  | 5, _ => exact ⟨row5, b', ok, (.tail _ (.tail _ (.tail _ (.tail _ (.tail _ (.head _)))))), a0.trans (by kernel_rfl)⟩
  | 6, _ => exact ⟨row6, b', ok, (.tail _ (.tail _ (.tail _ (.tail _ (.tail _ (.tail _ (.head _))))))), a0.trans (by kernel_rfl)⟩
  | 7, _ => exact ⟨row7, b', ok, (.tail _ (.tail _ (.tail _ (.tail _ (.tail _ (.tail _ (.tail _ (.head _)))))))), a0.trans (by kernel_rfl)⟩
  | 8, _ => exact ⟨row8, b', ok, (.tail _ (.tail _ (.tail _ (.tail _ (.tail _ (.tail _ (.tail _ (.tail _ (.head _))))))))), a0.trans (by kernel_rfl)⟩
  | 9, _ => exact ⟨row9, b', ok, (.tail _ (.tail _ (.tail _ (.tail _ (.tail _ (.tail _ (.tail _ (.tail _ (.tail _ (.head _)))))))))), a0.trans (by kernel_rfl)⟩
  | _ + 10, hm => omega
end PB.K18
end

section
set_option Elab.async false
set_option linter.all false
set_option maxRecDepth 100000
set_option maxHeartbeats 0
namespace PB.K18
open PB
theorem sq_step {a b : ES} {ρ ρ' : Env} (h : a ρ = .ok .next ρ') : sqK a b ρ = b ρ' := by
  show (a ρ).bind (thenF b) = _
  rw [h]; rfl
def S0 : ES := (asgK (setSlot 1) (lstK (consK (cK .non) (consK (cK (.int 0)) (consK (tupK nilK) (consK (lstK nilK) (consK (tupK (consK (cK (.int 2)) (consK (tupK (consK (tupK (consK (cK (.int 1)) (consK (cK (.int 1)) nilK))) nilK)) nilK))) (consK (tupK (consK (cK (.int 3)) (consK (tupK (consK (tupK (consK (cK (.int 0)) (consK (cK (.int 1)) nilK))) (consK (tupK (consK (cK (.int 1)) (consK (cK (.int 2)) nilK))) (consK (tupK (consK (cK (.int 0)) (consK (cK (.int 2)) nilK))) nilK)))) nilK))) (consK (tupK (consK (cK (.int 2)) (consK (lstK (consK (tupK (consK (cK (.int 0)) (consK (cK (.int 1)) nilK))) nilK)) nilK))) (consK (tupK (consK (cK (.bl true)) (consK (tupK nilK) nilK))) (consK (tupK (consK (cK (.int 17)) (consK (tupK nilK) nilK))) (consK (tupK (consK (cK (.int 0)) (consK (tupK nilK) nilK))) (consK (tupK (consK (cK (.int 2)) (consK (tupK (consK (tupK (consK (cK (.int 0)) (consK (cK (.int 2)) nilK))) nilK)) nilK))) (consK (dctK nilK) nilK))))))))))))))
def S1 (g48_1 : Env → Rc) : ES := (asgK (setSlot 2) (callK g48_1 (consK (rdP 0) (consK (opK .add (rdP 1) (lstK (consK (tupK (consK (cK (.int 2)) (consK (tupK (consK (tupK (consK (cK (.int 0)) (consK (cK (.int 1)) nilK))) (consK (tupK (consK (cK (.int 0)) (consK (cK (.int 1)) nilK))) nilK))) nilK))) (consK (tupK (consK (cK (.int 2)) (consK (tupK (consK (tupK (consK (cK (.int 0)) (consK (cK (.bl true)) nilK))) nilK)) nilK))) (consK (tupK (consK (cK (.int 3)) (consK (tupK (consK (tupK (consK (cK (.int 1)) (consK (cK (.int 2)) nilK))) (consK (tupK (consK (cK (.int 0)) (consK (cK (.int 1)) nilK))) nilK))) nilK))) (consK (tupK (consK (cK (.int 2)) (consK (tupK (consK (tupK (consK (cK (.int 0)) (consK (cK (.int 1)) nilK))) nilK)) (consK (cK (.int 0)) nilK)))) (consK (tupK (consK (cK (.int 2)) (consK (tupK (consK (tupK (consK (cK (.int 0)) (consK (cK (.int 1)) nilK))) (consK (tupK (consK (cK (.int 1)) (consK (cK (.int 0)) nilK))) nilK))) nilK))) nilK))))))) nilK))))
def S2 : ES := (asgpK 2 (tconsK (setSlot 3) (tconsK (setSlot 4) tnilK)) (consK (tupK (consK (cK (.int 2)) (consK (tupK nilK) nilK))) (consK (tupK (consK (cK (.int 4)) (consK (tupK (consK (tupK (consK (cK (.int 0)) (consK (cK (.int 1)) nilK))) (consK (tupK (consK (cK (.int 0)) (consK (cK (.int 2)) nilK))) (consK (tupK (consK (cK (.int 1)) (consK (cK (.int 3)) nilK))) (consK (tupK (consK (cK (.int 2)) (consK (cK (.int 3)) nilK))) nilK))))) nilK))) nilK)))
def S3 (g48_2 : Env → Rc) : ES := (asgK (setSlot 5) (callK g48_2 (consK (rdP 0) (consK (lstK (consK (cK .non) (consK (lstK (consK (cK (.int 0)) nilK)) (consK (tupK (consK (cK (.int 1)) (consK (cK (.int 0)) nilK))) (consK (tupK (consK (cK (.int 0)) (consK (cK (.int 0)) nilK))) (consK (tupK (consK (cK (.int 2)) nilK)) (consK (tupK (consK (negK (cK (.int 1))) nilK)) (consK (tupK (consK (cK (.bl true)) nilK)) (consK (tupK (consK (cK (.str [48])) nilK)) (consK (cK (.int 0)) (consK (tupK (consK (cK (.int 0)) (consK (cK .non) nilK))) nilK))))))))))) nilK))))
def S4 (g48_3 : Env → Rc) : ES := (asgK (setSlot 6) (callK g48_3 (consK (rdP 0) (consK (rdV 1) nilK))))
def S5 (g48_4 : Env → Rc) : ES := (asgK (setSlot 7) (callK g48_4 (consK (rdP 0) (consK (lstK (consK (cK .non) (consK (lstK (consK (cK (.int 0)) (consK (cK (.int 1)) nilK))) (consK (tupK (consK (cK (.int 0)) nilK)) (consK (tupK (consK (cK (.int 0)) (consK (cK (.int 1)) (consK (cK (.int 2)) nilK)))) (consK (tupK (consK (cK (.int 0)) (consK (cK (.int 4)) nilK))) (consK (tupK (consK (cK (.int 0)) (consK (negK (cK (.int 1))) nilK))) (consK (tupK (consK (cK (.int 0)) (consK (cK (.bl true)) nilK))) (consK (tupK (consK (cK (.int 0)) (consK (cK (.str [49])) nilK))) (consK (cK (.int 0)) (consK (tupK (consK (cK (.int 0)) (consK (cK .non) nilK))) nilK))))))))))) nilK))))
def S6 (g50_1 : Env → Rc) : ES := (iteK (tvK (cmpK .ne (callK g50_1 (consK (rdV 2) (consK (rdV 5) (consK (rdV 6) (consK (rdV 7) nilK))))) (opK .mul (lstK (consK (tupK (consK (cK (.str [111, 114, 100, 101, 114])) nilK)) nilK)) (cK (.int 11))))) (retK (cK (.bl false))) skipK)
def S7 (g50_2 : Env → Rc) : ES := (iteK (tvK (cmpK .ne (callK g50_2 (consK (rdV 3) (consK (rdV 5) (consK (rdV 6) (consK (rdV 7) nilK))))) (opK .add (opK .add (opK .add (opK .mul (lstK (consK (tupK (consK (cK (.str [108, 111, 116])) nilK)) nilK)) (cK (.int 4))) (opK .mul (lstK (consK (tupK (consK (cK (.str [104, 97, 108, 108])) nilK)) nilK)) (cK (.int 2)))) (lstK (consK (tupK (consK (cK (.str [111, 114, 100, 101, 114])) nilK)) nilK))) (opK .mul (lstK (consK (tupK (consK (cK (.str [102, 105, 110, 101])) nilK)) nilK)) (cK (.int 4)))))) (retK (cK (.bl false))) skipK)
def S8 (g50_3 : Env → Rc) : ES := (iteK (tvK (cmpK .ne (callK g50_3 (consK (rdV 3) (consK (tupK (consK (cK (.int 0)) nilK)) (consK (rdV 3) (consK (tupK (consK (cK (.int 0)) (consK (cK (.int 1)) nilK))) nilK))))) (opK .add (opK .add (opK .mul (lstK (consK (tupK (consK (cK (.str [102, 105, 110, 101])) nilK)) nilK)) (cK (.int 4))) (opK .mul (lstK (consK (tupK (consK (cK (.str [104, 97, 108, 108])) nilK)) nilK)) (cK (.int 2)))) (opK .mul (lstK (consK (tupK (consK (cK (.str [102, 105, 110, 101])) nilK)) nilK)) (cK (.int 5)))))) (retK (cK (.bl false))) skipK)
def S9 (g50_4 : Env → Rc) : ES := (iteK (tvK (cmpK .ne (callK g50_4 (consK (rdV 3) (consK (tupK nilK) (consK (rdV 4) (consK (rdV 7) nilK))))) (opK .add (opK .add (opK .mul (lstK (consK (tupK (consK (cK (.str [102, 105, 110, 101])) nilK)) nilK)) (cK (.int 4))) (opK .mul (lstK (consK (tupK (consK (cK (.str [109, 97, 112])) nilK)) nilK)) (cK (.int 3)))) (opK .mul (lstK (consK (tupK (consK (cK (.str [102, 105, 110, 101])) nilK)) nilK)) (cK (.int 4)))))) (retK (cK (.bl false))) skipK)
def S10 (g45_1 g50_5 : Env → Rc) : ES := (retK (andK (cmpK .eq (callK g50_5 (consK (rdV 3) (consK (tupK (consK (cK (.int 0)) (consK (cK (.int 1)) nilK))) (consK (rdV 4) (consK (tupK (consK (cK (.int 3)) (consK (cK (.int 3)) nilK))) nilK))))) (opK .mul (lstK (consK (tupK (consK (cK (.str [102, 105, 110, 101])) nilK)) nilK)) (cK (.int 11)))) (cmpK .eq (lamK (metK 2 hMet bMet) (callK g45_1 (consK (rdV 3) (consK (rdV 3) (consK (tupK (consK (cK (.int 0)) (consK (cK (.int 2)) nilK))) nilK))))) (tupK (consK (cK (.str [109, 97, 112])) nilK)))))
theorem st0_z (b0 b1 b2 b3 b4 xo xl xh xr : T) : S0 [.ow true b0, .no, .no, .no, .no, .no, .no, .no] = .ok .next [.ow true b0, .ow false (.lst halls), .no, .no, .no, .no, .no, .no] := by kernel_rfl
theorem st1_0 (b0 b1 b2 b3 b4 xo xl xh xr : T) (g48_1 : Env → Rc) : (S1 g48_1) [.ow true b0, .ow false (.lst halls), .no, .no, .no, .no, .no, .no] = (S1 (fun _ => g48_1 [.ow true b0, .ow false (.lst orders)])) [.ow true b0, .ow false (.lst halls), .no, .no, .no, .no, .no, .no] := by kernel_rfl
theorem st1_z (b0 b1 b2 b3 b4 xo xl xh xr : T) : (S1 (fun _ => .ret xo .s [.ow true b1, .no])) [.ow true b0, .ow false (.lst halls), .no, .no, .no, .no, .no, .no] = .ok .next [.ow true b1, .ow false (.lst halls), .sh xo, .no, .no, .no, .no, .no] := by kernel_rfl
theorem st2_z (b0 b1 b2 b3 b4 xo xl xh xr : T) : S2 [.ow true b1, .ow false (.lst halls), .sh xo, .no, .no, .no, .no, .no] = .ok .next [.ow true b1, .ow false (.lst halls), .sh xo, .sh two, .sh cube, .no, .no, .no] := by kernel_rfl
theorem st3_0 (b0 b1 b2 b3 b4 xo xl xh xr : T) (g48_2 : Env → Rc) : (S3 g48_2) [.ow true b1, .ow false (.lst halls), .sh xo, .sh two, .sh cube, .no, .no, .no] = (S3 (fun _ => g48_2 [.ow true b1, .ow false (.lst lots)])) [.ow true b1, .ow false (.lst halls), .sh xo, .sh two, .sh cube, .no, .no, .no] := by kernel_rfl
theorem st3_z (b0 b1 b2 b3 b4 xo xl xh xr : T) : (S3 (fun _ => .ret xl .s [.ow true b2, .no])) [.ow true b1, .ow false (.lst halls), .sh xo, .sh two, .sh cube, .no, .no, .no] = .ok .next [.ow true b2, .ow false (.lst halls), .sh xo, .sh two, .sh cube, .sh xl, .no, .no] := by kernel_rfl
theorem st4_0 (b0 b1 b2 b3 b4 xo xl xh xr : T) (g48_3 : Env → Rc) : (S4 g48_3) [.ow true b2, .ow false (.lst halls), .sh xo, .sh two, .sh cube, .sh xl, .no, .no] = (S4 (fun _ => g48_3 [.ow true b2, .sh (.lst halls)])) [.ow true b2, .ow false (.lst halls), .sh xo, .sh two, .sh cube, .sh xl, .no, .no] := by kernel_rfl
theorem st4_z (b0 b1 b2 b3 b4 xo xl xh xr : T) : (S4 (fun _ => .ret xh .s [.ow true b3, .no])) [.ow true b2, .ow false (.lst halls), .sh xo, .sh two, .sh cube, .sh xl, .no, .no] = .ok .next [.ow true b3, .sh (.lst halls), .sh xo, .sh two, .sh cube, .sh xl, .sh xh, .no] := by kernel_rfl
theorem st5_0 (b0 b1 b2 b3 b4 xo xl xh xr : T) (g48_4 : Env → Rc) : (S5 g48_4) [.ow true b3, .sh (.lst halls), .sh xo, .sh two, .sh cube, .sh xl, .sh xh, .no] = (S5 (fun _ => g48_4 [.ow true b3, .ow false (.lst rows)])) [.ow true b3, .sh (.lst halls), .sh xo, .sh two, .sh cube, .sh xl, .sh xh, .no] := by kernel_rfl
theorem st5_z (b0 b1 b2 b3 b4 xo xl xh xr : T) : (S5 (fun _ => .ret xr .s [.ow true b4, .no])) [.ow true b3, .sh (.lst halls), .sh xo, .sh two, .sh cube, .sh xl, .sh xh, .no] = .ok .next [.ow true b4, .sh (.lst halls), .sh xo, .sh two, .sh cube, .sh xl, .sh xh, .sh xr] := by kernel_rfl
theorem st6_0 (b0 b1 b2 b3 b4 xo xl xh xr : T) (g50_1 : Env → Rc) : (S6 g50_1) [.ow true b4, .sh (.lst halls), .sh xo, .sh two, .sh cube, .sh xl, .sh xh, .sh xr] = (S6 (fun _ => g50_1 [.sh xo, .sh xl, .sh xh, .sh xr])) [.ow true b4, .sh (.lst halls), .sh xo, .sh two, .sh cube, .sh xl, .sh xh, .sh xr] := by kernel_rfl
theorem st6_z (b0 b1 b2 b3 b4 xo xl xh xr : T) : (S6 (fun _ => rO)) [.ow true b4, .sh (.lst halls), .sh xo, .sh two, .sh cube, .sh xl, .sh xh, .sh xr] = .ok .next [.ow true b4, .sh (.lst halls), .sh xo, .sh two, .sh cube, .sh xl, .sh xh, .sh xr] := by kernel_rfl
theorem st7_0 (b0 b1 b2 b3 b4 xo xl xh xr : T) (g50_2 : Env → Rc) : (S7 g50_2) [.ow true b4, .sh (.lst halls), .sh xo, .sh two, .sh cube, .sh xl, .sh xh, .sh xr] = (S7 (fun _ => g50_2 [.sh two, .sh xl, .sh xh, .sh xr])) [.ow true b4, .sh (.lst halls), .sh xo, .sh two, .sh cube, .sh xl, .sh xh, .sh xr] := by kernel_rfl
theorem st7_z (b0 b1 b2 b3 b4 xo xl xh xr : T) : (S7 (fun _ => rL)) [.ow true b4, .sh (.lst halls), .sh xo, .sh two, .sh cube, .sh xl, .sh xh, .sh xr] = .ok .next [.ow true b4, .sh (.lst halls), .sh xo, .sh two, .sh cube, .sh xl, .sh xh, .sh xr] := by kernel_rfl
theorem st8_0 (b0 b1 b2 b3 b4 xo xl xh xr : T) (g50_3 : Env → Rc) : (S8 g50_3) [.ow true b4, .sh (.lst halls), .sh xo, .sh two, .sh cube, .sh xl, .sh xh, .sh xr] = (S8 (fun _ => g50_3 [.sh two, .sh (.tpd [.int 0]), .sh two, .sh (.tpd [.int 0, .int 1])])) [.ow true b4, .sh (.lst halls), .sh xo, .sh two, .sh cube, .sh xl, .sh xh, .sh xr] := by kernel_rfl
theorem st8_z (b0 b1 b2 b3 b4 xo xl xh xr : T) : (S8 (fun _ => rC)) [.ow true b4, .sh (.lst halls), .sh xo, .sh two, .sh cube, .sh xl, .sh xh, .sh xr] = .ok .next [.ow true b4, .sh (.lst halls), .sh xo, .sh two, .sh cube, .sh xl, .sh xh, .sh xr] := by kernel_rfl
theorem st9_0 (b0 b1 b2 b3 b4 xo xl xh xr : T) (g50_4 : Env → Rc) : (S9 g50_4) [.ow true b4, .sh (.lst halls), .sh xo, .sh two, .sh cube, .sh xl, .sh xh, .sh xr] = (S9 (fun _ => g50_4 [.sh two, .sh (.tpd []), .sh cube, .sh xr])) [.ow true b4, .sh (.lst halls), .sh xo, .sh two, .sh cube, .sh xl, .sh xh, .sh xr] := by kernel_rfl
theorem st9_z (b0 b1 b2 b3 b4 xo xl xh xr : T) : (S9 (fun _ => rD)) [.ow true b4, .sh (.lst halls), .sh xo, .sh two, .sh cube, .sh xl, .sh xh, .sh xr] = .ok .next [.ow true b4, .sh (.lst halls), .sh xo, .sh two, .sh cube, .sh xl, .sh xh, .sh xr] := by kernel_rfl
theorem st10_0 (b0 b1 b2 b3 b4 xo xl xh xr : T) (g45_1 g50_5 : Env → Rc) : (S10 g45_1 g50_5) [.ow true b4, .sh (.lst halls), .sh xo, .sh two, .sh cube, .sh xl, .sh xh, .sh xr] = (S10 g45_1 (fun _ => g50_5 [.sh two, .sh (.tpd [.int 0, .int 1]), .sh cube, .sh (.tpd [.int 3, .int 3])])) [.ow true b4, .sh (.lst halls), .sh xo, .sh two, .sh cube, .sh xl, .sh xh, .sh xr] := by kernel_rfl
theorem st10_1 (b0 b1 b2 b3 b4 xo xl xh xr : T) (g45_1 : Env → Rc) : (S10 g45_1 (fun _ => rE)) [.ow true b4, .sh (.lst halls), .sh xo, .sh two, .sh cube, .sh xl, .sh xh, .sh xr] = (S10 (fun _ => g45_1 [.sh two, .sh two, .sh (.tpd [.int 0, .int 2])]) (fun _ => rE)) [.ow true b4, .sh (.lst halls), .sh xo, .sh two, .sh cube, .sh xl, .sh xh, .sh xr] := by kernel_rfl
theorem st10_z (b0 b1 b2 b3 b4 xo xl xh xr : T) : (S10 (fun _ => .exc 4 .non) (fun _ => rE)) [.ow true b4, .sh (.lst halls), .sh xo, .sh two, .sh cube, .sh xl, .sh xh, .sh xr] = .ok (.ret (.bl true) .s) [.ow true b4, .sh (.lst halls), .sh xo, .sh two, .sh cube, .sh xl, .sh xh, .sh xr] := by kernel_rfl
theorem right {b0 : T} (h : Ok b0) : ∃ b', Ok b' ∧ n51 [.ow true b0] = .ret (.bl true) .s [.ow true b'] := by
  obtain ⟨xo, b1, ok1, mo, ho⟩ := pick_order h
  obtain ⟨xl, b2, ok2, ml, hl⟩ := pick_lot ok1
  obtain ⟨xh, b3, ok3, mh, hh⟩ := pick_hall ok2
  obtain ⟨xr, b4, ok4, mr, hr⟩ := pick_row ok3
  refine ⟨b4, ok4, ?_⟩
  have q0 : S0 [.ow true b0, .no, .no, .no, .no, .no, .no, .no] = .ok .next [.ow true b0, .ow false (.lst halls), .no, .no, .no, .no, .no, .no] := by
    exact st0_z b0 b1 b2 b3 b4 xo xl xh xr
  have q1 : (S1 f48) [.ow true b0, .ow false (.lst halls), .no, .no, .no, .no, .no, .no] = .ok .next [.ow true b1, .ow false (.lst halls), .sh xo, .no, .no, .no, .no, .no] := by
    refine (st1_0 b0 b1 b2 b3 b4 xo xl xh xr f48).trans ?_
    rw [ho]
    exact st1_z b0 b1 b2 b3 b4 xo xl xh xr
  have q2 : S2 [.ow true b1, .ow false (.lst halls), .sh xo, .no, .no, .no, .no, .no] = .ok .next [.ow true b1, .ow false (.lst halls), .sh xo, .sh two, .sh cube, .no, .no, .no] := by
    exact st2_z b0 b1 b2 b3 b4 xo xl xh xr
  have q3 : (S3 f48) [.ow true b1, .ow false (.lst halls), .sh xo, .sh two, .sh cube, .no, .no, .no] = .ok .next [.ow true b2, .ow false (.lst halls), .sh xo, .sh two, .sh cube, .sh xl, .no, .no] := by
    refine (st3_0 b0 b1 b2 b3 b4 xo xl xh xr f48).trans ?_
    rw [hl]
    exact st3_z b0 b1 b2 b3 b4 xo xl xh xr
  have q4 : (S4 f48) [.ow true b2, .ow false (.lst halls), .sh xo, .sh two, .sh cube, .sh xl, .no, .no] = .ok .next [.ow true b3, .sh (.lst halls), .sh xo, .sh two, .sh cube, .sh xl, .sh xh, .no] := by
    refine (st4_0 b0 b1 b2 b3 b4 xo xl xh xr f48).trans ?_
    rw [hh]
    exact st4_z b0 b1 b2 b3 b4 xo xl xh xr
  have q5 : (S5 f48) [.ow true b3, .sh (.lst halls), .sh xo, .sh two, .sh cube, .sh xl, .sh xh, .no] = .ok .next [.ow true b4, .sh (.lst halls), .sh xo, .sh two, .sh cube, .sh xl, .sh xh, .sh xr] := by
    refine (st5_0 b0 b1 b2 b3 b4 xo xl xh xr f48).trans ?_
    rw [hr]
    exact st5_z b0 b1 b2 b3 b4 xo xl xh xr
  have q6 : (S6 n50) [.ow true b4, .sh (.lst halls), .sh xo, .sh two, .sh cube, .sh xl, .sh xh, .sh xr] = .ok .next [.ow true b4, .sh (.lst halls), .sh xo, .sh two, .sh cube, .sh xl, .sh xh, .sh xr] := by
    refine (st6_0 b0 b1 b2 b3 b4 xo xl xh xr n50).trans ?_
    rw [uA xo xh xl xr mo mh]
    exact st6_z b0 b1 b2 b3 b4 xo xl xh xr
  have q7 : (S7 n50) [.ow true b4, .sh (.lst halls), .sh xo, .sh two, .sh cube, .sh xl, .sh xh, .sh xr] = .ok .next [.ow true b4, .sh (.lst halls), .sh xo, .sh two, .sh cube, .sh xl, .sh xh, .sh xr] := by
    refine (st7_0 b0 b1 b2 b3 b4 xo xl xh xr n50).trans ?_
    rw [uB xl xh xr ml mh]
    exact st7_z b0 b1 b2 b3 b4 xo xl xh xr
  have q8 : (S8 n50) [.ow true b4, .sh (.lst halls), .sh xo, .sh two, .sh cube, .sh xl, .sh xh, .sh xr] = .ok .next [.ow true b4, .sh (.lst halls), .sh xo, .sh two, .sh cube, .sh xl, .sh xh, .sh xr] := by
    refine (st8_0 b0 b1 b2 b3 b4 xo xl xh xr n50).trans ?_
    rw [uC]
    exact st8_z b0 b1 b2 b3 b4 xo xl xh xr
  have q9 : (S9 n50) [.ow true b4, .sh (.lst halls), .sh xo, .sh two, .sh cube, .sh xl, .sh xh, .sh xr] = .ok .next [.ow true b4, .sh (.lst halls), .sh xo, .sh two, .sh cube, .sh xl, .sh xh, .sh xr] := by
    refine (st9_0 b0 b1 b2 b3 b4 xo xl xh xr n50).trans ?_
    rw [uD xr mr]
    exact st9_z b0 b1 b2 b3 b4 xo xl xh xr
  have q10 : (S10 n45 n50) [.ow true b4, .sh (.lst halls), .sh xo, .sh two, .sh cube, .sh xl, .sh xh, .sh xr] = .ok (.ret (.bl true) .s) [.ow true b4, .sh (.lst halls), .sh xo, .sh two, .sh cube, .sh xl, .sh xh, .sh xr] := by
    refine (st10_0 b0 b1 b2 b3 b4 xo xl xh xr n45 n50).trans ?_
    rw [uE]
    refine (st10_1 b0 b1 b2 b3 b4 xo xl xh xr n45).trans ?_
    rw [uF]
    exact st10_z b0 b1 b2 b3 b4 xo xl xh xr
  have e : (sqK S0 (sqK (S1 f48) (sqK S2 (sqK (S3 f48) (sqK (S4 f48) (sqK (S5 f48) (sqK (S6 n50) (sqK (S7 n50) (sqK (S8 n50) (sqK (S9 n50) (S10 n45 n50))))))))))) [.ow true b0, .no, .no, .no, .no, .no, .no, .no] = .ok (.ret (.bl true) .s) [.ow true b4, .sh (.lst halls), .sh xo, .sh two, .sh cube, .sh xl, .sh xh, .sh xr] := by
    rw [sq_step q0, sq_step q1, sq_step q2, sq_step q3, sq_step q4, sq_step q5, sq_step q6, sq_step q7, sq_step q8, sq_step q9]
    exact q10
  show fin [.ow true b0] ((sqK S0 (sqK (S1 f48) (sqK S2 (sqK (S3 f48) (sqK (S4 f48) (sqK (S5 f48) (sqK (S6 n50) (sqK (S7 n50) (sqK (S8 n50) (sqK (S9 n50) (S10 n45 n50))))))))))) [.ow true b0, .no, .no, .no, .no, .no, .no, .no]) = _
  rw [e]; rfl
end PB.K18
end

section
set_option Elab.async false
set_option linter.all false
set_option maxRecDepth 100000
set_option maxHeartbeats 0
namespace PB.K18
open PB
def F46 : ES := (asgK (setSlot 2) (iteK (tvK (cmpK .lt (rdP 1) (bltK .len (consK (rdP 0) nilK)))) (bltK .int (consK (ixK (rdP 0) (rdP 1)) nilK)) (opK .add (opK .mul (cK (.int 89)) (rdP 1)) (cK (.int 41)))))
def R46 (m1 : EV) : ES := (sqK (asgK (setSlot 3) (opK .mod (bltK .max2 (consK (cK (.int 0)) (consK (opK .sub (bltK .abs (consK (rdP 2) nilK)) (opK .pow (cK (.int 10)) (cK (.int 18)))) nilK))) (opK .mul (opK .pow (cK (.int 10)) (cK (.int 60))) (opK .pow (cK (.int 10)) (cK (.int 60)))))) (sqK (asgK (setSlot 4) (opK .add (opK .add (opK .add m1 (opK .mul (cK (.int 509)) (rdP 1))) (opK .mul (cK (.int 17)) (bltK .int (consK (cmpK .lt (rdP 2) (cK (.int 0))) nilK)))) (cK (.int 1)))) (retK (lstK (consK (rdV 3) (consK (opK .mod (bltK .int (consK (rdP 4) nilK)) (opK .sub (opK .pow (cK (.int 2)) (cK (.int 61))) (cK (.int 1)))) nilK))))))
def C1 : EV := (opK .mul (opK .mod (bltK .int (consK (bltK .abs (consK (rdP 2) nilK)) nilK)) (opK .add (opK .pow (cK (.int 10)) (cK (.int 12))) (cK (.int 39)))) (cK (.int 10007)))
theorem bagP0 (t : T) (m : Nat) (h : F46 [.sh t, .sh (.int 0), .no, .no, .no] = .ok .next [.sh t, .sh (.int 0), .sh (.int (Int.ofNat m)), .no, .no]) : ∃ b, Ok b ∧ f46 [.sh t, .sh (.int 0)] = .ret b .f [.no, .no] := by
  have a0 : f46 [.sh t, .sh (.int 0)] = mkF 2 3 (sqK (fun _ => F46 [.sh t, .sh (.int 0), .no, .no, .no]) (R46 C1)) [.sh t, .sh (.int 0)] := by kernel_rfl
  rw [h] at a0
  generalize hG : (cond (iLt 0 (Int.ofNat m - 10 ^ 18)) (Int.ofNat m - 10 ^ 18) 0) % (10 ^ 60 * 10 ^ 60 : Int) = G at *
  have a1 : mkF 2 3 (sqK (fun _ => .ok .next [.sh t, .sh (.int 0), .sh (.int (Int.ofNat m)), .no, .no]) (R46 C1)) [.sh t, .sh (.int 0)] = mkF 2 3 (sqK (fun _ => .ok .next [.sh t, .sh (.int 0), .sh (.int (Int.ofNat m)), .no, .no]) (R46 (fun _ => C1 [.sh t, .sh (.int 0), .sh (.int (Int.ofNat m)), .sh (.int G), .no]))) [.sh t, .sh (.int 0)] := by
    subst hG; kernel_rfl
  have o1 : 0 ≤ Int.ofNat m % 1000000000039 := Int.emod_nonneg _ (by decide)
  have o2 : Int.ofNat m % 1000000000039 < 1000000000039 := Int.emod_lt_of_pos _ (by decide)
  have b1 : C1 [.sh t, .sh (.int 0), .sh (.int (Int.ofNat m)), .sh (.int G), .no] = .ok ⟨.int (Int.ofNat m % 1000000000039 * 10007), .s⟩ [.sh t, .sh (.int 0), .sh (.int (Int.ofNat m)), .sh (.int G), .no] :=
    (show C1 [.sh t, .sh (.int 0), .sh (.int (Int.ofNat m)), .sh (.int G), .no] = ofOpt (mulT (.int (Int.ofNat m % 1000000000039)) (.int 10007)) [.sh t, .sh (.int 0), .sh (.int (Int.ofNat m)), .sh (.int G), .no] by kernel_rfl).trans (by rw [mulT_int (mul_ok o1 (by omega) (by decide) (by decide))]; rfl)
  rw [b1] at a1
  have o3 : 0 ≤ G := by subst hG; exact Int.emod_nonneg _ (by decide)
  have o4 : 0 ≤ (Int.ofNat m % 1000000000039 * 10007 + 509 * 0 + 17 * 0 + 1) % P1 := Int.emod_nonneg _ (by decide)
  have o5 : (Int.ofNat m % 1000000000039 * 10007 + 509 * 0 + 17 * 0 + 1) % P1 < 2 ^ 61 - 1 := Int.emod_lt_of_pos _ (by decide)
  refine ⟨sack G ((Int.ofNat m % 1000000000039 * 10007 + 509 * 0 + 17 * 0 + 1) % P1), ⟨_, _, rfl, o3, o4, Int.lt_trans o5 (by decide)⟩, a0.trans (a1.trans ?_)⟩
  subst hG; kernel_rfl
theorem bagN0 (t : T) (m : Nat) (h : F46 [.sh t, .sh (.int 0), .no, .no, .no] = .ok .next [.sh t, .sh (.int 0), .sh (.int (Int.negSucc m)), .no, .no]) : ∃ b, Ok b ∧ f46 [.sh t, .sh (.int 0)] = .ret b .f [.no, .no] := by
  have a0 : f46 [.sh t, .sh (.int 0)] = mkF 2 3 (sqK (fun _ => F46 [.sh t, .sh (.int 0), .no, .no, .no]) (R46 C1)) [.sh t, .sh (.int 0)] := by kernel_rfl
  rw [h] at a0
  generalize hG : (cond (iLt 0 (Int.ofNat (m + 1) - 10 ^ 18)) (Int.ofNat (m + 1) - 10 ^ 18) 0) % (10 ^ 60 * 10 ^ 60 : Int) = G at *
  have a1 : mkF 2 3 (sqK (fun _ => .ok .next [.sh t, .sh (.int 0), .sh (.int (Int.negSucc m)), .no, .no]) (R46 C1)) [.sh t, .sh (.int 0)] = mkF 2 3 (sqK (fun _ => .ok .next [.sh t, .sh (.int 0), .sh (.int (Int.negSucc m)), .no, .no]) (R46 (fun _ => C1 [.sh t, .sh (.int 0), .sh (.int (Int.negSucc m)), .sh (.int G), .no]))) [.sh t, .sh (.int 0)] := by
    subst hG; kernel_rfl
  have o1 : 0 ≤ Int.ofNat (m + 1) % 1000000000039 := Int.emod_nonneg _ (by decide)
  have o2 : Int.ofNat (m + 1) % 1000000000039 < 1000000000039 := Int.emod_lt_of_pos _ (by decide)
  have b1 : C1 [.sh t, .sh (.int 0), .sh (.int (Int.negSucc m)), .sh (.int G), .no] = .ok ⟨.int (Int.ofNat (m + 1) % 1000000000039 * 10007), .s⟩ [.sh t, .sh (.int 0), .sh (.int (Int.negSucc m)), .sh (.int G), .no] :=
    (show C1 [.sh t, .sh (.int 0), .sh (.int (Int.negSucc m)), .sh (.int G), .no] = ofOpt (mulT (.int (Int.ofNat (m + 1) % 1000000000039)) (.int 10007)) [.sh t, .sh (.int 0), .sh (.int (Int.negSucc m)), .sh (.int G), .no] by kernel_rfl).trans (by rw [mulT_int (mul_ok o1 (by omega) (by decide) (by decide))]; rfl)
  rw [b1] at a1
  have o3 : 0 ≤ G := by subst hG; exact Int.emod_nonneg _ (by decide)
  have o4 : 0 ≤ (Int.ofNat (m + 1) % 1000000000039 * 10007 + 509 * 0 + 17 * 1 + 1) % P1 := Int.emod_nonneg _ (by decide)
  have o5 : (Int.ofNat (m + 1) % 1000000000039 * 10007 + 509 * 0 + 17 * 1 + 1) % P1 < 2 ^ 61 - 1 := Int.emod_lt_of_pos _ (by decide)
  refine ⟨sack G ((Int.ofNat (m + 1) % 1000000000039 * 10007 + 509 * 0 + 17 * 1 + 1) % P1), ⟨_, _, rfl, o3, o4, Int.lt_trans o5 (by decide)⟩, a0.trans (a1.trans ?_)⟩
  subst hG; kernel_rfl
theorem bagP1 (t : T) (m : Nat) (h : F46 [.sh t, .sh (.int 1), .no, .no, .no] = .ok .next [.sh t, .sh (.int 1), .sh (.int (Int.ofNat m)), .no, .no]) : ∃ b, Ok b ∧ f46 [.sh t, .sh (.int 1)] = .ret b .f [.no, .no] := by
  have a0 : f46 [.sh t, .sh (.int 1)] = mkF 2 3 (sqK (fun _ => F46 [.sh t, .sh (.int 1), .no, .no, .no]) (R46 C1)) [.sh t, .sh (.int 1)] := by kernel_rfl
  rw [h] at a0
  generalize hG : (cond (iLt 0 (Int.ofNat m - 10 ^ 18)) (Int.ofNat m - 10 ^ 18) 0) % (10 ^ 60 * 10 ^ 60 : Int) = G at *
  have a1 : mkF 2 3 (sqK (fun _ => .ok .next [.sh t, .sh (.int 1), .sh (.int (Int.ofNat m)), .no, .no]) (R46 C1)) [.sh t, .sh (.int 1)] = mkF 2 3 (sqK (fun _ => .ok .next [.sh t, .sh (.int 1), .sh (.int (Int.ofNat m)), .no, .no]) (R46 (fun _ => C1 [.sh t, .sh (.int 1), .sh (.int (Int.ofNat m)), .sh (.int G), .no]))) [.sh t, .sh (.int 1)] := by
    subst hG; kernel_rfl
  have o1 : 0 ≤ Int.ofNat m % 1000000000039 := Int.emod_nonneg _ (by decide)
  have o2 : Int.ofNat m % 1000000000039 < 1000000000039 := Int.emod_lt_of_pos _ (by decide)
  have b1 : C1 [.sh t, .sh (.int 1), .sh (.int (Int.ofNat m)), .sh (.int G), .no] = .ok ⟨.int (Int.ofNat m % 1000000000039 * 10007), .s⟩ [.sh t, .sh (.int 1), .sh (.int (Int.ofNat m)), .sh (.int G), .no] :=
    (show C1 [.sh t, .sh (.int 1), .sh (.int (Int.ofNat m)), .sh (.int G), .no] = ofOpt (mulT (.int (Int.ofNat m % 1000000000039)) (.int 10007)) [.sh t, .sh (.int 1), .sh (.int (Int.ofNat m)), .sh (.int G), .no] by kernel_rfl).trans (by rw [mulT_int (mul_ok o1 (by omega) (by decide) (by decide))]; rfl)
  rw [b1] at a1
  have o3 : 0 ≤ G := by subst hG; exact Int.emod_nonneg _ (by decide)
  have o4 : 0 ≤ (Int.ofNat m % 1000000000039 * 10007 + 509 * 1 + 17 * 0 + 1) % P1 := Int.emod_nonneg _ (by decide)
  have o5 : (Int.ofNat m % 1000000000039 * 10007 + 509 * 1 + 17 * 0 + 1) % P1 < 2 ^ 61 - 1 := Int.emod_lt_of_pos _ (by decide)
  refine ⟨sack G ((Int.ofNat m % 1000000000039 * 10007 + 509 * 1 + 17 * 0 + 1) % P1), ⟨_, _, rfl, o3, o4, Int.lt_trans o5 (by decide)⟩, a0.trans (a1.trans ?_)⟩
  subst hG; kernel_rfl
theorem bagN1 (t : T) (m : Nat) (h : F46 [.sh t, .sh (.int 1), .no, .no, .no] = .ok .next [.sh t, .sh (.int 1), .sh (.int (Int.negSucc m)), .no, .no]) : ∃ b, Ok b ∧ f46 [.sh t, .sh (.int 1)] = .ret b .f [.no, .no] := by
  have a0 : f46 [.sh t, .sh (.int 1)] = mkF 2 3 (sqK (fun _ => F46 [.sh t, .sh (.int 1), .no, .no, .no]) (R46 C1)) [.sh t, .sh (.int 1)] := by kernel_rfl
  rw [h] at a0
  generalize hG : (cond (iLt 0 (Int.ofNat (m + 1) - 10 ^ 18)) (Int.ofNat (m + 1) - 10 ^ 18) 0) % (10 ^ 60 * 10 ^ 60 : Int) = G at *
  have a1 : mkF 2 3 (sqK (fun _ => .ok .next [.sh t, .sh (.int 1), .sh (.int (Int.negSucc m)), .no, .no]) (R46 C1)) [.sh t, .sh (.int 1)] = mkF 2 3 (sqK (fun _ => .ok .next [.sh t, .sh (.int 1), .sh (.int (Int.negSucc m)), .no, .no]) (R46 (fun _ => C1 [.sh t, .sh (.int 1), .sh (.int (Int.negSucc m)), .sh (.int G), .no]))) [.sh t, .sh (.int 1)] := by
    subst hG; kernel_rfl
  have o1 : 0 ≤ Int.ofNat (m + 1) % 1000000000039 := Int.emod_nonneg _ (by decide)
  have o2 : Int.ofNat (m + 1) % 1000000000039 < 1000000000039 := Int.emod_lt_of_pos _ (by decide)
  have b1 : C1 [.sh t, .sh (.int 1), .sh (.int (Int.negSucc m)), .sh (.int G), .no] = .ok ⟨.int (Int.ofNat (m + 1) % 1000000000039 * 10007), .s⟩ [.sh t, .sh (.int 1), .sh (.int (Int.negSucc m)), .sh (.int G), .no] :=
    (show C1 [.sh t, .sh (.int 1), .sh (.int (Int.negSucc m)), .sh (.int G), .no] = ofOpt (mulT (.int (Int.ofNat (m + 1) % 1000000000039)) (.int 10007)) [.sh t, .sh (.int 1), .sh (.int (Int.negSucc m)), .sh (.int G), .no] by kernel_rfl).trans (by rw [mulT_int (mul_ok o1 (by omega) (by decide) (by decide))]; rfl)
  rw [b1] at a1
  have o3 : 0 ≤ G := by subst hG; exact Int.emod_nonneg _ (by decide)
  have o4 : 0 ≤ (Int.ofNat (m + 1) % 1000000000039 * 10007 + 509 * 1 + 17 * 1 + 1) % P1 := Int.emod_nonneg _ (by decide)
  have o5 : (Int.ofNat (m + 1) % 1000000000039 * 10007 + 509 * 1 + 17 * 1 + 1) % P1 < 2 ^ 61 - 1 := Int.emod_lt_of_pos _ (by decide)
  refine ⟨sack G ((Int.ofNat (m + 1) % 1000000000039 * 10007 + 509 * 1 + 17 * 1 + 1) % P1), ⟨_, _, rfl, o3, o4, Int.lt_trans o5 (by decide)⟩, a0.trans (a1.trans ?_)⟩
  subst hG; kernel_rfl
theorem bagP2 (t : T) (m : Nat) (h : F46 [.sh t, .sh (.int 2), .no, .no, .no] = .ok .next [.sh t, .sh (.int 2), .sh (.int (Int.ofNat m)), .no, .no]) : ∃ b, Ok b ∧ f46 [.sh t, .sh (.int 2)] = .ret b .f [.no, .no] := by
  have a0 : f46 [.sh t, .sh (.int 2)] = mkF 2 3 (sqK (fun _ => F46 [.sh t, .sh (.int 2), .no, .no, .no]) (R46 C1)) [.sh t, .sh (.int 2)] := by kernel_rfl
  rw [h] at a0
  generalize hG : (cond (iLt 0 (Int.ofNat m - 10 ^ 18)) (Int.ofNat m - 10 ^ 18) 0) % (10 ^ 60 * 10 ^ 60 : Int) = G at *
  have a1 : mkF 2 3 (sqK (fun _ => .ok .next [.sh t, .sh (.int 2), .sh (.int (Int.ofNat m)), .no, .no]) (R46 C1)) [.sh t, .sh (.int 2)] = mkF 2 3 (sqK (fun _ => .ok .next [.sh t, .sh (.int 2), .sh (.int (Int.ofNat m)), .no, .no]) (R46 (fun _ => C1 [.sh t, .sh (.int 2), .sh (.int (Int.ofNat m)), .sh (.int G), .no]))) [.sh t, .sh (.int 2)] := by
    subst hG; kernel_rfl
  have o1 : 0 ≤ Int.ofNat m % 1000000000039 := Int.emod_nonneg _ (by decide)
  have o2 : Int.ofNat m % 1000000000039 < 1000000000039 := Int.emod_lt_of_pos _ (by decide)
  have b1 : C1 [.sh t, .sh (.int 2), .sh (.int (Int.ofNat m)), .sh (.int G), .no] = .ok ⟨.int (Int.ofNat m % 1000000000039 * 10007), .s⟩ [.sh t, .sh (.int 2), .sh (.int (Int.ofNat m)), .sh (.int G), .no] :=
    (show C1 [.sh t, .sh (.int 2), .sh (.int (Int.ofNat m)), .sh (.int G), .no] = ofOpt (mulT (.int (Int.ofNat m % 1000000000039)) (.int 10007)) [.sh t, .sh (.int 2), .sh (.int (Int.ofNat m)), .sh (.int G), .no] by kernel_rfl).trans (by rw [mulT_int (mul_ok o1 (by omega) (by decide) (by decide))]; rfl)
  rw [b1] at a1
  have o3 : 0 ≤ G := by subst hG; exact Int.emod_nonneg _ (by decide)
  have o4 : 0 ≤ (Int.ofNat m % 1000000000039 * 10007 + 509 * 2 + 17 * 0 + 1) % P1 := Int.emod_nonneg _ (by decide)
  have o5 : (Int.ofNat m % 1000000000039 * 10007 + 509 * 2 + 17 * 0 + 1) % P1 < 2 ^ 61 - 1 := Int.emod_lt_of_pos _ (by decide)
  refine ⟨sack G ((Int.ofNat m % 1000000000039 * 10007 + 509 * 2 + 17 * 0 + 1) % P1), ⟨_, _, rfl, o3, o4, Int.lt_trans o5 (by decide)⟩, a0.trans (a1.trans ?_)⟩
  subst hG; kernel_rfl
theorem bagN2 (t : T) (m : Nat) (h : F46 [.sh t, .sh (.int 2), .no, .no, .no] = .ok .next [.sh t, .sh (.int 2), .sh (.int (Int.negSucc m)), .no, .no]) : ∃ b, Ok b ∧ f46 [.sh t, .sh (.int 2)] = .ret b .f [.no, .no] := by
  have a0 : f46 [.sh t, .sh (.int 2)] = mkF 2 3 (sqK (fun _ => F46 [.sh t, .sh (.int 2), .no, .no, .no]) (R46 C1)) [.sh t, .sh (.int 2)] := by kernel_rfl
  rw [h] at a0
  generalize hG : (cond (iLt 0 (Int.ofNat (m + 1) - 10 ^ 18)) (Int.ofNat (m + 1) - 10 ^ 18) 0) % (10 ^ 60 * 10 ^ 60 : Int) = G at *
  have a1 : mkF 2 3 (sqK (fun _ => .ok .next [.sh t, .sh (.int 2), .sh (.int (Int.negSucc m)), .no, .no]) (R46 C1)) [.sh t, .sh (.int 2)] = mkF 2 3 (sqK (fun _ => .ok .next [.sh t, .sh (.int 2), .sh (.int (Int.negSucc m)), .no, .no]) (R46 (fun _ => C1 [.sh t, .sh (.int 2), .sh (.int (Int.negSucc m)), .sh (.int G), .no]))) [.sh t, .sh (.int 2)] := by
    subst hG; kernel_rfl
  have o1 : 0 ≤ Int.ofNat (m + 1) % 1000000000039 := Int.emod_nonneg _ (by decide)
  have o2 : Int.ofNat (m + 1) % 1000000000039 < 1000000000039 := Int.emod_lt_of_pos _ (by decide)
  have b1 : C1 [.sh t, .sh (.int 2), .sh (.int (Int.negSucc m)), .sh (.int G), .no] = .ok ⟨.int (Int.ofNat (m + 1) % 1000000000039 * 10007), .s⟩ [.sh t, .sh (.int 2), .sh (.int (Int.negSucc m)), .sh (.int G), .no] :=
    (show C1 [.sh t, .sh (.int 2), .sh (.int (Int.negSucc m)), .sh (.int G), .no] = ofOpt (mulT (.int (Int.ofNat (m + 1) % 1000000000039)) (.int 10007)) [.sh t, .sh (.int 2), .sh (.int (Int.negSucc m)), .sh (.int G), .no] by kernel_rfl).trans (by rw [mulT_int (mul_ok o1 (by omega) (by decide) (by decide))]; rfl)
  rw [b1] at a1
  have o3 : 0 ≤ G := by subst hG; exact Int.emod_nonneg _ (by decide)
  have o4 : 0 ≤ (Int.ofNat (m + 1) % 1000000000039 * 10007 + 509 * 2 + 17 * 1 + 1) % P1 := Int.emod_nonneg _ (by decide)
  have o5 : (Int.ofNat (m + 1) % 1000000000039 * 10007 + 509 * 2 + 17 * 1 + 1) % P1 < 2 ^ 61 - 1 := Int.emod_lt_of_pos _ (by decide)
  refine ⟨sack G ((Int.ofNat (m + 1) % 1000000000039 * 10007 + 509 * 2 + 17 * 1 + 1) % P1), ⟨_, _, rfl, o3, o4, Int.lt_trans o5 (by decide)⟩, a0.trans (a1.trans ?_)⟩
  subst hG; kernel_rfl
theorem bagP3 (t : T) (m : Nat) (h : F46 [.sh t, .sh (.int 3), .no, .no, .no] = .ok .next [.sh t, .sh (.int 3), .sh (.int (Int.ofNat m)), .no, .no]) : ∃ b, Ok b ∧ f46 [.sh t, .sh (.int 3)] = .ret b .f [.no, .no] := by
  have a0 : f46 [.sh t, .sh (.int 3)] = mkF 2 3 (sqK (fun _ => F46 [.sh t, .sh (.int 3), .no, .no, .no]) (R46 C1)) [.sh t, .sh (.int 3)] := by kernel_rfl
  rw [h] at a0
  generalize hG : (cond (iLt 0 (Int.ofNat m - 10 ^ 18)) (Int.ofNat m - 10 ^ 18) 0) % (10 ^ 60 * 10 ^ 60 : Int) = G at *
  have a1 : mkF 2 3 (sqK (fun _ => .ok .next [.sh t, .sh (.int 3), .sh (.int (Int.ofNat m)), .no, .no]) (R46 C1)) [.sh t, .sh (.int 3)] = mkF 2 3 (sqK (fun _ => .ok .next [.sh t, .sh (.int 3), .sh (.int (Int.ofNat m)), .no, .no]) (R46 (fun _ => C1 [.sh t, .sh (.int 3), .sh (.int (Int.ofNat m)), .sh (.int G), .no]))) [.sh t, .sh (.int 3)] := by
    subst hG; kernel_rfl
  have o1 : 0 ≤ Int.ofNat m % 1000000000039 := Int.emod_nonneg _ (by decide)
  have o2 : Int.ofNat m % 1000000000039 < 1000000000039 := Int.emod_lt_of_pos _ (by decide)
  have b1 : C1 [.sh t, .sh (.int 3), .sh (.int (Int.ofNat m)), .sh (.int G), .no] = .ok ⟨.int (Int.ofNat m % 1000000000039 * 10007), .s⟩ [.sh t, .sh (.int 3), .sh (.int (Int.ofNat m)), .sh (.int G), .no] :=
    (show C1 [.sh t, .sh (.int 3), .sh (.int (Int.ofNat m)), .sh (.int G), .no] = ofOpt (mulT (.int (Int.ofNat m % 1000000000039)) (.int 10007)) [.sh t, .sh (.int 3), .sh (.int (Int.ofNat m)), .sh (.int G), .no] by kernel_rfl).trans (by rw [mulT_int (mul_ok o1 (by omega) (by decide) (by decide))]; rfl)
  rw [b1] at a1
  have o3 : 0 ≤ G := by subst hG; exact Int.emod_nonneg _ (by decide)
  have o4 : 0 ≤ (Int.ofNat m % 1000000000039 * 10007 + 509 * 3 + 17 * 0 + 1) % P1 := Int.emod_nonneg _ (by decide)
  have o5 : (Int.ofNat m % 1000000000039 * 10007 + 509 * 3 + 17 * 0 + 1) % P1 < 2 ^ 61 - 1 := Int.emod_lt_of_pos _ (by decide)
  refine ⟨sack G ((Int.ofNat m % 1000000000039 * 10007 + 509 * 3 + 17 * 0 + 1) % P1), ⟨_, _, rfl, o3, o4, Int.lt_trans o5 (by decide)⟩, a0.trans (a1.trans ?_)⟩
  subst hG; kernel_rfl
theorem bagN3 (t : T) (m : Nat) (h : F46 [.sh t, .sh (.int 3), .no, .no, .no] = .ok .next [.sh t, .sh (.int 3), .sh (.int (Int.negSucc m)), .no, .no]) : ∃ b, Ok b ∧ f46 [.sh t, .sh (.int 3)] = .ret b .f [.no, .no] := by
  have a0 : f46 [.sh t, .sh (.int 3)] = mkF 2 3 (sqK (fun _ => F46 [.sh t, .sh (.int 3), .no, .no, .no]) (R46 C1)) [.sh t, .sh (.int 3)] := by kernel_rfl
  rw [h] at a0
  generalize hG : (cond (iLt 0 (Int.ofNat (m + 1) - 10 ^ 18)) (Int.ofNat (m + 1) - 10 ^ 18) 0) % (10 ^ 60 * 10 ^ 60 : Int) = G at *
  have a1 : mkF 2 3 (sqK (fun _ => .ok .next [.sh t, .sh (.int 3), .sh (.int (Int.negSucc m)), .no, .no]) (R46 C1)) [.sh t, .sh (.int 3)] = mkF 2 3 (sqK (fun _ => .ok .next [.sh t, .sh (.int 3), .sh (.int (Int.negSucc m)), .no, .no]) (R46 (fun _ => C1 [.sh t, .sh (.int 3), .sh (.int (Int.negSucc m)), .sh (.int G), .no]))) [.sh t, .sh (.int 3)] := by
    subst hG; kernel_rfl
  have o1 : 0 ≤ Int.ofNat (m + 1) % 1000000000039 := Int.emod_nonneg _ (by decide)
  have o2 : Int.ofNat (m + 1) % 1000000000039 < 1000000000039 := Int.emod_lt_of_pos _ (by decide)
  have b1 : C1 [.sh t, .sh (.int 3), .sh (.int (Int.negSucc m)), .sh (.int G), .no] = .ok ⟨.int (Int.ofNat (m + 1) % 1000000000039 * 10007), .s⟩ [.sh t, .sh (.int 3), .sh (.int (Int.negSucc m)), .sh (.int G), .no] :=
    (show C1 [.sh t, .sh (.int 3), .sh (.int (Int.negSucc m)), .sh (.int G), .no] = ofOpt (mulT (.int (Int.ofNat (m + 1) % 1000000000039)) (.int 10007)) [.sh t, .sh (.int 3), .sh (.int (Int.negSucc m)), .sh (.int G), .no] by kernel_rfl).trans (by rw [mulT_int (mul_ok o1 (by omega) (by decide) (by decide))]; rfl)
  rw [b1] at a1
  have o3 : 0 ≤ G := by subst hG; exact Int.emod_nonneg _ (by decide)
  have o4 : 0 ≤ (Int.ofNat (m + 1) % 1000000000039 * 10007 + 509 * 3 + 17 * 1 + 1) % P1 := Int.emod_nonneg _ (by decide)
  have o5 : (Int.ofNat (m + 1) % 1000000000039 * 10007 + 509 * 3 + 17 * 1 + 1) % P1 < 2 ^ 61 - 1 := Int.emod_lt_of_pos _ (by decide)
  refine ⟨sack G ((Int.ofNat (m + 1) % 1000000000039 * 10007 + 509 * 3 + 17 * 1 + 1) % P1), ⟨_, _, rfl, o3, o4, Int.lt_trans o5 (by decide)⟩, a0.trans (a1.trans ?_)⟩
  subst hG; kernel_rfl
theorem bagI0 (t : T) (m : Int) (h : F46 [.sh t, .sh (.int 0), .no, .no, .no] = .ok .next [.sh t, .sh (.int 0), .sh (.int m), .no, .no]) : ∃ b, Ok b ∧ f46 [.sh t, .sh (.int 0)] = .ret b .f [.no, .no] := by
  cases m with
  | ofNat m => exact bagP0 t m h
  | negSucc m => exact bagN0 t m h
theorem bagI1 (t : T) (m : Int) (h : F46 [.sh t, .sh (.int 1), .no, .no, .no] = .ok .next [.sh t, .sh (.int 1), .sh (.int m), .no, .no]) : ∃ b, Ok b ∧ f46 [.sh t, .sh (.int 1)] = .ret b .f [.no, .no] := by
  cases m with
  | ofNat m => exact bagP1 t m h
  | negSucc m => exact bagN1 t m h
theorem bagI2 (t : T) (m : Int) (h : F46 [.sh t, .sh (.int 2), .no, .no, .no] = .ok .next [.sh t, .sh (.int 2), .sh (.int m), .no, .no]) : ∃ b, Ok b ∧ f46 [.sh t, .sh (.int 2)] = .ret b .f [.no, .no] := by
  cases m with
  | ofNat m => exact bagP2 t m h
  | negSucc m => exact bagN2 t m h
theorem bagI3 (t : T) (m : Int) (h : F46 [.sh t, .sh (.int 3), .no, .no, .no] = .ok .next [.sh t, .sh (.int 3), .sh (.int m), .no, .no]) : ∃ b, Ok b ∧ f46 [.sh t, .sh (.int 3)] = .ret b .f [.no, .no] := by
  cases m with
  | ofNat m => exact bagP3 t m h
  | negSucc m => exact bagN3 t m h
abbrev Sx (t : T) (s1 s2 : Sl) : Env := [.sh t, s1, s2, .no, .no, .no, .no, .no, .no, .no, .no, .no, .no, .no]
def Cnd (g51 : Env → Rc) : Env → R Bool := (ntK (tvK (callK g51 (consK (rdP 2) nilK))))
def Stp (g51 : Env → Rc) : T → Env → R (List T) := genStep [3] (setSlot 3) (Cnd g51) (eltK (cK (.int 1)))
theorem step_ok {t b : T} {a : Int} (h : Ok b) (x : T) : ∃ b', Ok b' ∧ Stp n51 x (Sx t (.sh (.int a)) (.ow false b)) = .ok [] (Sx t (.sh (.int a)) (.ow false b')) := by
  obtain ⟨b', ok, e⟩ := right h
  have a0 : ∀ g51 : Env → Rc, Stp g51 x (Sx t (.sh (.int a)) (.ow false b)) = Stp (fun _ => g51 [.ow true b]) x (Sx t (.sh (.int a)) (.ow false b)) := by intro g51; kernel_rfl
  have a1 := a0 n51
  rw [e] at a1
  exact ⟨b', ok, a1.trans (by kernel_rfl)⟩
theorem loop_ok {t : T} {a : Int} : ∀ (l : List T) (b : T), Ok b → ∃ b', Ok b' ∧ compL (Stp n51) l (Sx t (.sh (.int a)) (.ow false b)) = .ok [] (Sx t (.sh (.int a)) (.ow false b'))
  | [], b, h => ⟨b, h, rfl⟩
  | x :: r, b, h => by
    obtain ⟨b1, ok1, e1⟩ := step_ok (t := t) (a := a) h x
    obtain ⟨b2, ok2, e2⟩ := loop_ok r b1 ok1
    refine ⟨b2, ok2, ?_⟩
    show ((Stp n51 x (Sx t (.sh (.int a)) (.ow false b))).bind fun l ρ => (compL (Stp n51) r ρ).bind fun m ρ => .ok (l ++ m) ρ) = _
    rw [e1]
    show ((compL (Stp n51) r (Sx t (.sh (.int a)) (.ow false b1))).bind fun m ρ => R.ok ([] ++ m) ρ) = _
    rw [e2]; rfl
def Cmp (g51 : Env → Rc) : EV := (compK [3] (genK [3] [] (setSlot 3) (rng1K (cK (.int 4))) (ntK (tvK (callK g51 (consK (rdP 2) nilK)))) (eltK (cK (.int 1)))))
theorem cmp_ok {t b : T} {a : Int} (h : Ok b) : ∃ b', Cmp n51 (Sx t (.sh (.int a)) (.ow false b)) = .ok ⟨.lst [], .f⟩ (Sx t (.sh (.int a)) (.ow false b')) := by
  obtain ⟨b', _, e⟩ := loop_ok (t := t) (a := a) (rangeL 0 4) b h
  have a0 : ∀ g51 : Env → Rc, Cmp g51 (Sx t (.sh (.int a)) (.ow false b)) = comp1 (Sx t (.sh (.int a)) (.ow false b)) [3] ((compL (Stp g51) (rangeL 0 4) (Sx t (.sh (.int a)) (.ow false b))).mapEnv (unlend (Sx t (.sh (.int a)) (.ow false b)) [])) := by intro g51; kernel_rfl
  have a1 := a0 n51
  rw [e] at a1
  exact ⟨b', a1.trans (by kernel_rfl)⟩
def BodyI (m : EV) : ES := (iteK (tvK (cmpK .ne m (lstK nilK))) (retK (cK (.bl false))) skipK)
def Body (g46 g51 : Env → Rc) : ES := (sqK (asgK (setSlot 2) (callK g46 (consK (rdV 0) (consK (rdV 1) nilK)))) (iteK (tvK (cmpK .ne (compK [3] (genK [3] [] (setSlot 3) (rng1K (cK (.int 4))) (ntK (tvK (callK g51 (consK (rdP 2) nilK)))) (eltK (cK (.int 1))))) (lstK nilK))) (retK (cK (.bl false))) skipK))
/-- what slot 2 may hold -/
inductive Sb : Sl → Prop
  | no : Sb .no
  | ow (b : T) : Sb (.ow false b)
/-- .. slot 1 -/
inductive Sa : Sl → Prop
  | no : Sa .no
  | sh (a : T) : Sa (.sh a)
theorem body_ok {t : T} {a : Int} {s2 : Sl} (hs : Sb s2) (h : ∃ b, Ok b ∧ f46 [.sh t, .sh (.int a)] = .ret b .f [.no, .no]) : ∃ b', Body f46 n51 (Sx t (.sh (.int a)) s2) = .ok .next (Sx t (.sh (.int a)) (.ow false b')) := by
  obtain ⟨b, ok, e⟩ := h
  obtain ⟨b', e2⟩ := cmp_ok (t := t) (a := a) ok
  refine ⟨b', ?_⟩
  have a0 : ∀ g46 g51 : Env → Rc, Body g46 g51 (Sx t (.sh (.int a)) s2) = (sqK (asgK (setSlot 2) (callK (fun _ => g46 [.sh t, .sh (.int a)]) (consK (rdV 0) (consK (rdV 1) nilK)))) (BodyI (Cmp g51))) (Sx t (.sh (.int a)) s2) := by
    intro g46 g51
    cases hs <;> kernel_rfl
  have a1 : ∀ g51 : Env → Rc, (sqK (asgK (setSlot 2) (callK (fun _ => .ret b .f [.no, .no]) (consK (rdV 0) (consK (rdV 1) nilK)))) (BodyI (Cmp g51))) (Sx t (.sh (.int a)) s2) = BodyI (fun _ => Cmp g51 (Sx t (.sh (.int a)) (.ow false b))) (Sx t (.sh (.int a)) (.ow false b)) := by
    intro g51
    cases hs <;> kernel_rfl
  rw [a0, e, a1, e2]
  kernel_rfl
def Fr : T → Env → R PB.Flow := fun x ρ => (setSlot 1 ⟨x, .s⟩ ρ).bind fun _ ρ => Body f46 n51 ρ
theorem for_ok {t : T} : ∀ (l : List Int) (s1 s2 : Sl), Sa s1 → Sb s2 → (∀ a ∈ l, ∃ b, Ok b ∧ f46 [.sh t, .sh (.int a)] = .ret b .f [.no, .no]) → ∃ s1' s2', Sa s1' ∧ Sb s2' ∧ forL Fr (l.map T.int) (Sx t s1 s2) = .ok .next (Sx t s1' s2')
  | [], s1, s2, h1, h2, _ => ⟨s1, s2, h1, h2, rfl⟩
  | a :: l, s1, s2, h1, h2, h => by
    obtain ⟨b', e⟩ := body_ok (a := a) h2 (h a (.head _))
    obtain ⟨s1', s2', q1, q2, e2⟩ := for_ok l (.sh (.int a)) (.ow false b') (.sh _) (.ow _) fun x hx => h x (.tail _ hx)
    refine ⟨s1', s2', q1, q2, ?_⟩
    have a0 : Fr (.int a) (Sx t s1 s2) = Body f46 n51 (Sx t (.sh (.int a)) s2) := by cases h1 <;> rfl
    show (Fr (.int a) (Sx t s1 s2)).bind (thenF (forL Fr (l.map T.int))) = _
    rw [a0, e]
    exact e2
def It : EI := (rng1K (bltK .max2 (consK (cK (.int 1)) (consK (bltK .min2 (consK (cK (.int 4)) (consK (bltK .len (consK (rdP 0) nilK)) nilK))) nilK))))
def Rest (g44 g50 : Env → Rc) : ES := (sqK (asgpK 2 (tconsK (setSlot 4) (tconsK (setSlot 5) tnilK)) (consK (tupK (consK (cK (.int 2)) (consK (tupK nilK) nilK))) (consK (tupK (consK (cK (.int 4)) (consK (tupK (consK (tupK (consK (cK (.int 0)) (consK (cK (.int 1)) nilK))) (consK (tupK (consK (cK (.int 0)) (consK (cK (.int 2)) nilK))) (consK (tupK (consK (cK (.int 1)) (consK (cK (.int 3)) nilK))) (consK (tupK (consK (cK (.int 2)) (consK (cK (.int 3)) nilK))) nilK))))) nilK))) nilK))) (sqK (asgK (setSlot 6) (lstK (consK (cK .non) (consK (cK (.int 0)) (consK (tupK nilK) (consK (lstK nilK) (consK (dctK nilK) (consK (cK (.str [99, 111, 109, 112, 108, 101, 116, 105, 111, 110])) (consK (tupK (consK (cK (.str [99, 111, 109, 112, 108, 101, 116, 105, 111, 110])) (consK (cK (.int 0)) nilK))) (consK (tupK (consK (cK (.str [111, 114, 100, 101, 114])) nilK)) (consK (tupK (consK (cK (.str [111, 114, 100, 101, 114])) (consK (cK (.int 0)) (consK (cK (.int 1)) nilK)))) (consK (tupK (consK (cK (.str [106, 111, 105, 110])) (consK (cK (.int 0)) nilK))) (consK (tupK (consK (cK (.str [106, 111, 105, 110])) (consK (cK (.int 3)) nilK))) (consK (tupK (consK (cK (.str [109, 101, 101, 116])) (consK (cK (.int 0)) nilK))) (consK (tupK (consK (cK (.str [106, 111, 105, 110])) nilK)) nilK))))))))))))))) (sqK (asgK (setSlot 6) (opK .add (rdP 6) (lstK (consK (tupK (consK (cK .non) (consK (cK (.int 0)) nilK))) (consK (lstK (consK (cK (.str [99, 111, 109, 112, 108, 101, 116, 105, 111, 110])) nilK)) (consK (tupK (consK (cK (.str [106, 111, 105, 110])) (consK (cK (.bl true)) nilK))) nilK)))))) (sqK (asgK (setSlot 7) (compK [8] (genK [8] [6] (setSlot 8) (itlK [6] (rdP 6)) (tvK (cmpK .isnot (callK g44 (consK (rdV 4) (consK (rdV 5) (consK (tupK (consK (cK (.int 1)) (consK (cK (.int 2)) nilK))) (consK (rdV 8) nilK))))) (cK (.bl false)))) (eltK (rdV 8))))) (sqK (asgK (setSlot 9) (bltK .sum2 (consK (compK [10] (genK [10] [] (setSlot 10) (rng1K (cK (.int 5))) yesK (eltK (compK [11] (genK [11] [] (setSlot 11) (rng1K (cK (.int 5))) (tvK (cmpK .ne (rdP 10) (rdP 11))) (eltK (tupK (consK (rdV 10) (consK (opK .add (cK (.int 5)) (rdP 11)) nilK))))))))) (consK (lstK nilK) nilK)))) (sqK (asgK (setSlot 12) (tupK (consK (cK (.int 10)) (consK (tupFK (consK (rdP 9) nilK)) nilK)))) (sqK (asgK (setSlot 13) (callK g50 (consK (rdV 12) (consK (tupK (consK (cK (.int 0)) nilK)) (consK (rdV 5) (consK (repK (tupK (consK (cK (.int 0)) nilK)) (cK (.int 10))) nilK)))))) (sqK (iteK (torK (tvK (cmpK .ne (rdP 13) (opK .add (opK .mul (lstK (consK (tupK (consK (cK (.str [102, 105, 110, 101])) nilK)) nilK)) (cK (.int 7))) (opK .mul (lstK (consK (tupK (consK (cK (.str [109, 97, 110, 121])) (consK (cK (.int 16)) nilK))) nilK)) (cK (.int 4)))))) (torK (tvK (cmpK .ne (rdP 7) (lstK nilK))) (tvK (cmpK .ne (cK (.int 16)) (cK (.int 16)))))) (retK (cK (.bl false))) skipK) (retK (cmpK .is (callK g44 (consK (rdV 4) (consK (rdV 5) (consK (tupK (consK (cK (.int 1)) (consK (cK (.int 2)) nilK))) (consK (tupK (consK (cK (.str [99, 111, 109, 112, 108, 101, 116, 105, 111, 110])) nilK)) nilK))))) (cK (.bl true))))))))))))
theorem rest_ok (t : T) (s1 s2 : Sl) (h1 : Sa s1) (h2 : Sb s2) : fin [.sh t] (Rest n44 n50 (Sx t s1 s2)) = .ret (.bl true) .s [.no] := by
  cases h1 <;> cases h2 <;> kernel_rfl
theorem fr_step {tg : EA} {it : EI} {b : ES} {ρ ρ' : Env} {items : List T} (hi : it ρ = .ok items ρ) (hf : forL (fun x ρ => (tg ⟨x, .s⟩ ρ).bind fun _ ρ => b ρ) items ρ = .ok .next ρ') : frK [] tg it b ρ = .ok .next ρ' := by
  unfold frK
  rw [hi]
  show (forL (fun x ρ => (tg ⟨x, .s⟩ ρ).bind fun _ ρ => b ρ) items ρ).mapEnv _ = _
  rw [hf]; rfl
theorem law1 {t : T} (l : List Int) (hi : It (Sx t .no .no) = .ok (l.map T.int) (Sx t .no .no)) (h : ∀ a ∈ l, ∃ b, Ok b ∧ f46 [.sh t, .sh (.int a)] = .ret b .f [.no, .no]) : n52 [.sh t] = .ret (.bl true) .s [.no] := by
  obtain ⟨s1, s2, h1, h2, e⟩ := for_ok l .no .no .no .no h
  show fin [.sh t] (sqK (frK [] (setSlot 1) It (Body f46 n51)) (Rest n44 n50) (Sx t .no .no)) = _
  rw [sq_step (fr_step hi e)]
  exact rest_ok t s1 s2 h1 h2
theorem law_scr : ∀ ns : List Int, n52 [.sh (.scr ns)] = .ret (.bl true) .s [.no]
  | [] => law1 [0] (by kernel_rfl) fun a ha => by
    simp only [List.mem_cons, List.not_mem_nil, or_false] at ha
    rcases ha with rfl
    · exact bagI0 _ 41 (by kernel_rfl)
  | [z] => law1 [0] (by kernel_rfl) fun a ha => by
    simp only [List.mem_cons, List.not_mem_nil, or_false] at ha
    rcases ha with rfl
    · exact bagI0 _ z (by kernel_rfl)
  | [z, y] => law1 [0, 1] (by kernel_rfl) fun a ha => by
    simp only [List.mem_cons, List.not_mem_nil, or_false] at ha
    rcases ha with rfl | rfl
    · exact bagI0 _ z (by kernel_rfl)
    · exact bagI1 _ y (by kernel_rfl)
  | [z, y, x] => law1 [0, 1, 2] (by kernel_rfl) fun a ha => by
    simp only [List.mem_cons, List.not_mem_nil, or_false] at ha
    rcases ha with rfl | rfl | rfl
    · exact bagI0 _ z (by kernel_rfl)
    · exact bagI1 _ y (by kernel_rfl)
    · exact bagI2 _ x (by kernel_rfl)
  | z :: y :: x :: w :: r => law1 [0, 1, 2, 3] (by kernel_rfl) fun a ha => by
    simp only [List.mem_cons, List.not_mem_nil, or_false] at ha
    rcases ha with rfl | rfl | rfl | rfl
    · exact bagI0 _ z (by kernel_rfl)
    · exact bagI1 _ y (by kernel_rfl)
    · exact bagI2 _ x (by kernel_rfl)
    · exact bagI3 _ w (by kernel_rfl)
theorem law_lst : ∀ ns : List Int, n52 [.sh (.lst (ns.map T.int))] = .ret (.bl true) .s [.no]
  | [] => law1 [0] (by kernel_rfl) fun a ha => by
    simp only [List.mem_cons, List.not_mem_nil, or_false] at ha
    rcases ha with rfl
    · exact bagI0 _ 41 (by kernel_rfl)
  | [z] => law1 [0] (by kernel_rfl) fun a ha => by
    simp only [List.mem_cons, List.not_mem_nil, or_false] at ha
    rcases ha with rfl
    · exact bagI0 _ z (by kernel_rfl)
  | [z, y] => law1 [0, 1] (by kernel_rfl) fun a ha => by
    simp only [List.mem_cons, List.not_mem_nil, or_false] at ha
    rcases ha with rfl | rfl
    · exact bagI0 _ z (by kernel_rfl)
    · exact bagI1 _ y (by kernel_rfl)
  | [z, y, x] => law1 [0, 1, 2] (by kernel_rfl) fun a ha => by
    simp only [List.mem_cons, List.not_mem_nil, or_false] at ha
    rcases ha with rfl | rfl | rfl
    · exact bagI0 _ z (by kernel_rfl)
    · exact bagI1 _ y (by kernel_rfl)
    · exact bagI2 _ x (by kernel_rfl)
  | z :: y :: x :: w :: r => law1 [0, 1, 2, 3] (by kernel_rfl) fun a ha => by
    simp only [List.mem_cons, List.not_mem_nil, or_false] at ha
    rcases ha with rfl | rfl | rfl | rfl
    · exact bagI0 _ z (by kernel_rfl)
    · exact bagI1 _ y (by kernel_rfl)
    · exact bagI2 _ x (by kernel_rfl)
    · exact bagI3 _ w (by kernel_rfl)
end PB.K18
end

section
set_option Elab.async false
set_option linter.all false
set_option maxRecDepth 100000
set_option maxHeartbeats 0
namespace PB.K18
open PySem PySem.Spec PyProof.Rows L2
theorem ne_nb {a b : Nat} (h : (!(Nat.beq a b)) = true) : a ≠ b := fun e => by
  subst e
  rw [Nat.beq_refl] at h
  cases h
theorem ex0 {K : PySem.W.Frag} (h : exB K = true) : (!(Nat.beq (He.cT K ("_law_all", none)).2 (He.cT K ("_law_right", none)).2)) = true := h
theorem sup_TooMany {w : World} {K : PySem.W.Frag} {h : Heap} {mg : Str → Option Value} (X : K.In h) (G : h.Ns mainGlobals mg) (es : sds.map (supO K) = svs) : SupC PySem.Challenge.rw_bothbounds_k18_errors_of_cuts.prog w K mg (He.ga K "TooMany") "limit" ∧ XfC K (He.ga K "TooMany") ∧ PySem.W.findIn K (.ref (He.ga K "TooMany")) "limit" = some none :=
  supc_of (P := PySem.Challenge.rw_bothbounds_k18_errors_of_cuts.prog) (w := w) (d := sd_TooMany) PySem.F.excBase_OverflowError PySem.W.kxs_OverflowError PySem.F.store_OverflowError X G (sup_at es 0 rfl rfl) (by kernel_rfl) rfl rfl rfl rfl rfl rfl rfl (by decide +kernel) rfl rfl (by decide +kernel) (by decide +kernel) (by decide +kernel) (fun _ _ _ _ _ _ _ _ _ _ => BindsTo.of_eq rfl) (fun _ => ⟨_, rfl⟩) (fun _ => rfl) (fun _ => rfl) (by kernel_rfl)
theorem gf {w : World} {K : PySem.W.Frag} {h : Heap} {mg : Str → Option Value} (X : K.In h) (G : h.Ns mainGlobals mg) (cx : He.SaysX fas fns tbs tf exB w h K) (c : He.SaysD fas fns K) (es : sds.map (supO K) = svs) : GF PySem.Challenge.rw_bothbounds_k18_errors_of_cuts.prog w K mg where
  b_abs := He.free_ok X G (c.fact 53 (f := .free "abs") rfl)
  b_all := He.free_ok X G (c.fact 54 (f := .free "all") rfl)
  b_any := He.free_ok X G (c.fact 55 (f := .free "any") rfl)
  b_bool := He.free_ok X G (c.fact 56 (f := .free "bool") rfl)
  b_enumerate := He.free_ok X G (c.fact 57 (f := .free "enumerate") rfl)
  b_int := He.free_ok X G (c.fact 58 (f := .free "int") rfl)
  b_isinstance := He.free_ok X G (c.fact 59 (f := .free "isinstance") rfl)
  b_len := He.free_ok X G (c.fact 60 (f := .free "len") rfl)
  b_list := He.free_ok X G (c.fact 61 (f := .free "list") rfl)
  b_max := He.free_ok X G (c.fact 62 (f := .free "max") rfl)
  b_min := He.free_ok X G (c.fact 63 (f := .free "min") rfl)
  b_range := He.free_ok X G (c.fact 64 (f := .free "range") rfl)
  b_sorted := He.free_ok X G (c.fact 65 (f := .free "sorted") rfl)
  b_str := He.free_ok X G (c.fact 66 (f := .free "str") rfl)
  b_sum := He.free_ok X G (c.fact 67 (f := .free "sum") rfl)
  b_tuple := He.free_ok X G (c.fact 68 (f := .free "tuple") rfl)
  b_zip := He.free_ok X G (c.fact 69 (f := .free "zip") rfl)
  k_ABOVE := He.str_ok X G (c.fact 70 (f := .str "ABOVE" "above") rfl)
  k_BELOW := He.str_ok X G (c.fact 71 (f := .str "BELOW" "below") rfl)
  k_COMPLETION := He.str_ok X G (c.fact 72 (f := .str "COMPLETION" "completion") rfl)
  k_FOLLOWS := He.str_ok X G (c.fact 73 (f := .str "FOLLOWS" "follows") rfl)
  k_JOIN := He.str_ok X G (c.fact 74 (f := .str "JOIN" "join") rfl)
  k_MEET := He.str_ok X G (c.fact 75 (f := .str "MEET" "meet") rfl)
  k_MOST_CUT := He.int_ok X G (c.fact 76 (f := .int "MOST_CUT" 16) rfl)
  k_MOST_THINGS := He.int_ok X G (c.fact 77 (f := .int "MOST_THINGS" 16) rfl)
  k_ORDER := He.str_ok X G (c.fact 78 (f := .str "ORDER" "order") rfl)
  k_RING := He.str_ok X G (c.fact 79 (f := .str "RING" "ring") rfl)
  k_TWICE := He.str_ok X G (c.fact 80 (f := .str "TWICE" "twice") rfl)
  k_TWO_ABOVE := He.str_ok X G (c.fact 81 (f := .str "TWO_ABOVE" "two above") rfl)
  k_TWO_BELOW := He.str_ok X G (c.fact 82 (f := .str "TWO_BELOW" "two below") rfl)
  r_InvalidHall := have q := He.exc_ok (c.fact 83 (f := .exc "InvalidHall") rfl); ⟨He.ga K "InvalidHall", q.1, (He.glo_ok X G (c.fact 88 (f := .glo "InvalidHall") rfl)), q.2.1, q.2.2.1, q.2.2.2, rfl⟩
  r_InvalidLot := have q := He.exc_ok (c.fact 84 (f := .exc "InvalidLot") rfl); ⟨He.ga K "InvalidLot", q.1, (He.glo_ok X G (c.fact 90 (f := .glo "InvalidLot") rfl)), q.2.1, q.2.2.1, q.2.2.2, rfl⟩
  r_InvalidMap := have q := He.exc_ok (c.fact 85 (f := .exc "InvalidMap") rfl); ⟨He.ga K "InvalidMap", q.1, (He.glo_ok X G (c.fact 89 (f := .glo "InvalidMap") rfl)), q.2.1, q.2.2.1, q.2.2.2, rfl⟩
  r_InvalidOrder := have q := He.exc_ok (c.fact 86 (f := .exc "InvalidOrder") rfl); ⟨He.ga K "InvalidOrder", q.1, (He.glo_ok X G (c.fact 87 (f := .glo "InvalidOrder") rfl)), q.2.1, q.2.2.1, q.2.2.2, rfl⟩
  r_TooMany := ⟨⟨He.ga K "TooMany", _, (sup_TooMany (w := w) X G es).1, (He.glo_ok X G (c.fact 91 (f := .glo "TooMany") rfl)), rfl⟩⟩
  f_TooMany := (sup_TooMany (w := w) X G es).2
  g_InvalidOrder := (He.glo_ok X G (c.fact 87 (f := .glo "InvalidOrder") rfl))
  x_InvalidOrder := fun n => match n with | 0 => He.exm_ok (c.fact 92 (f := .exm "BoundsError" "InvalidOrder" false) rfl) | 1 => He.exm_ok (c.fact 92 (f := .exm "BoundsError" "InvalidOrder" false) rfl) | 2 => He.exm_ok (c.fact 97 (f := .exm "InvalidOrder" "InvalidOrder" true) rfl) | 3 => He.exm_ok (c.fact 102 (f := .exm "InvalidHall" "InvalidOrder" false) rfl) | 4 => He.exm_ok (c.fact 107 (f := .exm "InvalidMap" "InvalidOrder" false) rfl) | 5 => He.exm_ok (c.fact 112 (f := .exm "InvalidLot" "InvalidOrder" false) rfl) | 6 => He.exm_ok (c.fact 117 (f := .exm "TooMany" "InvalidOrder" false) rfl) | n + 7 => He.exm_ok (c.fact 92 (f := .exm "BoundsError" "InvalidOrder" false) rfl)
  g_InvalidHall := (He.glo_ok X G (c.fact 88 (f := .glo "InvalidHall") rfl))
  x_InvalidHall := fun n => match n with | 0 => He.exm_ok (c.fact 93 (f := .exm "BoundsError" "InvalidHall" false) rfl) | 1 => He.exm_ok (c.fact 93 (f := .exm "BoundsError" "InvalidHall" false) rfl) | 2 => He.exm_ok (c.fact 98 (f := .exm "InvalidOrder" "InvalidHall" false) rfl) | 3 => He.exm_ok (c.fact 103 (f := .exm "InvalidHall" "InvalidHall" true) rfl) | 4 => He.exm_ok (c.fact 108 (f := .exm "InvalidMap" "InvalidHall" false) rfl) | 5 => He.exm_ok (c.fact 113 (f := .exm "InvalidLot" "InvalidHall" false) rfl) | 6 => He.exm_ok (c.fact 118 (f := .exm "TooMany" "InvalidHall" false) rfl) | n + 7 => He.exm_ok (c.fact 93 (f := .exm "BoundsError" "InvalidHall" false) rfl)
  g_InvalidMap := (He.glo_ok X G (c.fact 89 (f := .glo "InvalidMap") rfl))
  x_InvalidMap := fun n => match n with | 0 => He.exm_ok (c.fact 94 (f := .exm "BoundsError" "InvalidMap" false) rfl) | 1 => He.exm_ok (c.fact 94 (f := .exm "BoundsError" "InvalidMap" false) rfl) | 2 => He.exm_ok (c.fact 99 (f := .exm "InvalidOrder" "InvalidMap" false) rfl) | 3 => He.exm_ok (c.fact 104 (f := .exm "InvalidHall" "InvalidMap" false) rfl) | 4 => He.exm_ok (c.fact 109 (f := .exm "InvalidMap" "InvalidMap" true) rfl) | 5 => He.exm_ok (c.fact 114 (f := .exm "InvalidLot" "InvalidMap" false) rfl) | 6 => He.exm_ok (c.fact 119 (f := .exm "TooMany" "InvalidMap" false) rfl) | n + 7 => He.exm_ok (c.fact 94 (f := .exm "BoundsError" "InvalidMap" false) rfl)
  g_InvalidLot := (He.glo_ok X G (c.fact 90 (f := .glo "InvalidLot") rfl))
  x_InvalidLot := fun n => match n with | 0 => He.exm_ok (c.fact 95 (f := .exm "BoundsError" "InvalidLot" false) rfl) | 1 => He.exm_ok (c.fact 95 (f := .exm "BoundsError" "InvalidLot" false) rfl) | 2 => He.exm_ok (c.fact 100 (f := .exm "InvalidOrder" "InvalidLot" false) rfl) | 3 => He.exm_ok (c.fact 105 (f := .exm "InvalidHall" "InvalidLot" false) rfl) | 4 => He.exm_ok (c.fact 110 (f := .exm "InvalidMap" "InvalidLot" false) rfl) | 5 => He.exm_ok (c.fact 115 (f := .exm "InvalidLot" "InvalidLot" true) rfl) | 6 => He.exm_ok (c.fact 120 (f := .exm "TooMany" "InvalidLot" false) rfl) | n + 7 => He.exm_ok (c.fact 95 (f := .exm "BoundsError" "InvalidLot" false) rfl)
  g_TooMany := (He.glo_ok X G (c.fact 91 (f := .glo "TooMany") rfl))
  x_TooMany := fun n => match n with | 0 => He.exm_ok (c.fact 96 (f := .exm "BoundsError" "TooMany" false) rfl) | 1 => He.exm_ok (c.fact 96 (f := .exm "BoundsError" "TooMany" false) rfl) | 2 => He.exm_ok (c.fact 101 (f := .exm "InvalidOrder" "TooMany" false) rfl) | 3 => He.exm_ok (c.fact 106 (f := .exm "InvalidHall" "TooMany" false) rfl) | 4 => He.exm_ok (c.fact 111 (f := .exm "InvalidMap" "TooMany" false) rfl) | 5 => He.exm_ok (c.fact 116 (f := .exm "InvalidLot" "TooMany" false) rfl) | 6 => He.exm_ok (c.fact 121 (f := .exm "TooMany" "TooMany" true) rfl) | n + 7 => He.exm_ok (c.fact 96 (f := .exm "BoundsError" "TooMany" false) rfl)
def TBs (K : PySem.W.Frag) : List (Addr × Str) := [((He.cT K ("_law_all", none)).2, "_law_all.<locals>.<lambda>"), ((He.cT K ("_law_right", none)).2, "_law_right.<locals>.<lambda>")]
section
variable {P : Program} {w : World} {K : PySem.W.Frag} {mg : Str → Option Value} {base : Heap} {TB : List (Addr × Str)} {f : Addr} {fd : FuncData}
theorem okO {g44 g46 g50 g51 : Env → Rc} (G : GF P w K mg) (F : FunD K "law" "law" (defArgs s52) (defBody s52) (defScope s52) [] [] f fd) (d44 : Cal P w K mg base TB (CC K) 8 "is_completion_paper" ["order", "hall", "map_row", "value"] g44) (d46 : Cal P w K mg base TB (CC K) 1 "_law_bag" ["script", "spot"] g46) (d50 : Cal P w K mg base TB (CC K) 11 "_law_all" ["order", "lot", "hall", "row"] g50) (d51 : Cal P w K mg base TB (CC K) 14 "_law_right" ["bag"] g51) : FnOk P w K mg base (L2.CX P w) 15 f fd ["script"] (spF K TB (CC K) (mkF 1 13 (e52 g44 g46 g50 g51))) :=
  q_defO F sc52 (fun _ => rfl) rfl rfl fun _ _ _ _ _ _ c hp => (s_cons (s_for hp c.cm (q_rng1 G.b_range (q_b (ok_max2 c.cm) G.b_max (q_cons r_int (q_cons (q_b (ok_min2 c.cm) G.b_min (q_cons r_int (q_cons (q_b ok_len G.b_len (q_cons q_p r_nil)) r_nil))) r_nil)))) (q_tn c) (s_cons (q_set c (q_call d46 c (q_cons q_v (q_cons q_v r_nil)))) (s_one (s_if (q_tcmp c (q_lc [("turn", 3)] c (q_rng1 G.b_range r_int) (q_bk c fun _ _ _ _ _ c => (q_cn c)) (c_one (q_bk c fun _ _ _ _ _ c => (r_tnt (q_tv (q_call d51 c (q_cons q_p r_nil)))))) (q_bk c fun _ _ _ _ _ c => r_int)) (r_lst r_nil)) (s_one (s_ret r_bl)) s_nil)))) (s_cons (q_asgt c (t_cons (q_tn c) (t_cons (q_tn c) t_nil)) (q_cons (r_tup (q_cons r_int (q_cons (r_tup r_nil) r_nil))) (q_cons (r_tup (q_cons r_int (q_cons (r_tup (q_cons (r_tup (q_cons r_int (q_cons r_int r_nil))) (q_cons (r_tup (q_cons r_int (q_cons r_int r_nil))) (q_cons (r_tup (q_cons r_int (q_cons r_int r_nil))) (q_cons (r_tup (q_cons r_int (q_cons r_int r_nil))) r_nil))))) r_nil))) r_nil))) (s_cons (q_set c (r_lst (q_cons r_non (q_cons r_int (q_cons (r_tup r_nil) (q_cons (r_lst r_nil) (q_cons r_dct0 (q_cons q_s (q_cons (r_tup (q_cons q_s (q_cons r_int r_nil))) (q_cons (r_tup (q_cons q_s r_nil)) (q_cons (r_tup (q_cons q_s (q_cons r_int (q_cons r_int r_nil)))) (q_cons (r_tup (q_cons q_s (q_cons r_int r_nil))) (q_cons (r_tup (q_cons q_s (q_cons r_int r_nil))) (q_cons (r_tup (q_cons q_s (q_cons r_int r_nil))) (q_cons (r_tup (q_cons q_s r_nil)) r_nil))))))))))))))) (s_cons (q_set c (q_op q_p (r_lst (q_cons (r_tup (q_cons r_non (q_cons r_int r_nil))) (q_cons (r_lst (q_cons q_s r_nil)) (q_cons (r_tup (q_cons q_s (q_cons r_bl r_nil))) r_nil)))))) (s_cons (q_lcS [("value", 8)] c (r_itl q_p) (q_bk c fun _ _ _ _ _ c => (q_cn c)) (c_one (q_bk c fun _ _ _ _ _ c => (q_tcmp c (q_call d44 c (q_cons q_v (q_cons q_v (q_cons (r_tup (q_cons r_int (q_cons r_int r_nil))) (q_cons q_v r_nil))))) r_bl))) (q_bk c fun _ _ _ _ _ c => q_v)) (s_cons (q_set c (q_b (ok_sum2 c.cm) G.b_sum (q_cons (q_lc [("one", 10)] c (q_rng1 G.b_range r_int) (q_bk c fun _ _ _ _ _ c => (q_cn c)) c_nil (q_bk c fun _ _ _ _ _ c => (q_lc [("far", 11)] c (q_rng1 G.b_range r_int) (q_bk c fun _ _ _ _ _ c => (q_cn c)) (c_one (q_bk c fun _ _ _ _ _ c => (q_tcmp c q_p q_p))) (q_bk c fun _ _ _ _ _ c => (r_tup (q_cons q_v (q_cons (q_op r_int q_p) r_nil))))))) (q_cons (r_lst r_nil) r_nil)))) (s_cons (q_set c (r_tup (q_cons r_int (q_cons (q_tupF G.b_tuple (q_cons q_p r_nil)) r_nil)))) (s_cons (q_set c (q_call d50 c (q_cons q_v (q_cons (r_tup (q_cons r_int r_nil)) (q_cons q_v (q_cons (q_rep (r_tup (q_cons r_int r_nil)) r_int) r_nil)))))) (s_cons (s_if (PW.pt (r_tor (q_tcmp c q_p (q_op (q_op (r_lst (q_cons (r_tup (q_cons q_s r_nil)) r_nil)) r_int) (q_op (r_lst (q_cons (r_tup (q_cons q_s (q_cons r_int r_nil))) r_nil)) r_int))) (r_tor (q_tcmp c q_p (r_lst r_nil)) (pw_or1 (q_tcmp c (q_gi G.k_MOST_CUT) r_int))))) (s_one (s_ret r_bl)) s_nil) (s_one (s_ret (q_cmp c (q_call d44 c (q_cons q_v (q_cons q_v (q_cons (r_tup (q_cons r_int (q_cons r_int r_nil))) (q_cons (r_tup (q_cons q_s r_nil)) r_nil))))) r_bl))))))))))))
end
abbrev RW := PySem.Challenge.rw_bothbounds_k18_errors_of_cuts
theorem facts {w : World} {K : PySem.W.Frag} {h : Heap} {mg : Str → Option Value} {fa : Addr} (X : K.In h) (G : h.Ns mainGlobals mg) (hfa : mg "law" = some (.ref fa)) (cx : He.SaysX fas fns tbs tf exB w h K) (es : sds.map (supO K) = svs) : LamX.LawAtS RW w K (L2.CX RW.prog w) 15 63 "script" mg fa h := by
  have c : He.SaysD fas fns K := cx.t.d
  have gg : GF RW.prog w K mg := gf X G cx c es
  obtain ⟨fd0, F0⟩ := c.def_ 0 (d := dd0) rfl
  obtain ⟨fd1, F1⟩ := c.def_ 1 (d := dd1) rfl
  obtain ⟨fd2, F2⟩ := c.def_ 2 (d := dd2) rfl
  obtain ⟨fd3, F3⟩ := c.def_ 3 (d := dd3) rfl
  obtain ⟨fd7, F7⟩ := c.def_ 4 (d := dd7) rfl
  obtain ⟨fd8, F8⟩ := c.def_ 5 (d := dd8) rfl
  obtain ⟨fd6, F6⟩ := c.def_ 6 (d := dd6) rfl
  obtain ⟨fd12, F12⟩ := c.def_ 7 (d := dd12) rfl
  obtain ⟨fd13, F13⟩ := c.def_ 8 (d := dd13) rfl
  obtain ⟨fd14, F14⟩ := c.def_ 9 (d := dd14) rfl
  obtain ⟨fd17, F17⟩ := c.def_ 10 (d := dd17) rfl
  obtain ⟨fd9, F9⟩ := c.def_ 11 (d := dd9) rfl
  obtain ⟨fd15, F15⟩ := c.def_ 12 (d := dd15) rfl
  obtain ⟨fd16, F16⟩ := c.def_ 13 (d := dd16) rfl
  obtain ⟨fd18, F18⟩ := c.def_ 14 (d := dd18) rfl
  obtain ⟨fd19, F19⟩ := c.def_ 15 (d := dd19) rfl
  obtain ⟨fd20, F20⟩ := c.def_ 16 (d := dd20) rfl
  obtain ⟨fd21, F21⟩ := c.def_ 17 (d := dd21) rfl
  obtain ⟨fd22, F22⟩ := c.def_ 18 (d := dd22) rfl
  obtain ⟨fd30, F30⟩ := c.def_ 19 (d := dd30) rfl
  obtain ⟨fd31, F31⟩ := c.def_ 20 (d := dd31) rfl
  obtain ⟨fd32, F32⟩ := c.def_ 21 (d := dd32) rfl
  obtain ⟨fd34, F34⟩ := c.def_ 22 (d := dd34) rfl
  obtain ⟨fd44, F44⟩ := c.def_ 23 (d := dd44) rfl
  obtain ⟨fd46, F46⟩ := c.def_ 24 (d := dd46) rfl
  obtain ⟨fd23, F23⟩ := c.def_ 25 (d := dd23) rfl
  obtain ⟨fd24, F24⟩ := c.def_ 26 (d := dd24) rfl
  obtain ⟨fd25, F25⟩ := c.def_ 27 (d := dd25) rfl
  obtain ⟨fd26, F26⟩ := c.def_ 28 (d := dd26) rfl
  obtain ⟨fd4, F4⟩ := c.def_ 29 (d := dd4) rfl
  obtain ⟨fd5, F5⟩ := c.def_ 30 (d := dd5) rfl
  obtain ⟨fd33, F33⟩ := c.def_ 31 (d := dd33) rfl
  obtain ⟨fd35, F35⟩ := c.def_ 32 (d := dd35) rfl
  obtain ⟨fd36, F36⟩ := c.def_ 33 (d := dd36) rfl
  obtain ⟨fd37, F37⟩ := c.def_ 34 (d := dd37) rfl
  obtain ⟨fd38, F38⟩ := c.def_ 35 (d := dd38) rfl
  obtain ⟨fd27, F27⟩ := c.def_ 36 (d := dd27) rfl
  obtain ⟨fd39, F39⟩ := c.def_ 37 (d := dd39) rfl
  obtain ⟨fd10, F10⟩ := c.def_ 38 (d := dd10) rfl
  obtain ⟨fd11, F11⟩ := c.def_ 39 (d := dd11) rfl
  obtain ⟨fd28, F28⟩ := c.def_ 40 (d := dd28) rfl
  obtain ⟨fd40, F40⟩ := c.def_ 41 (d := dd40) rfl
  obtain ⟨fd29, F29⟩ := c.def_ 42 (d := dd29) rfl
  obtain ⟨fd41, F41⟩ := c.def_ 43 (d := dd41) rfl
  obtain ⟨fd42, F42⟩ := c.def_ 44 (d := dd42) rfl
  obtain ⟨fd43, F43⟩ := c.def_ 45 (d := dd43) rfl
  obtain ⟨fd45, F45⟩ := c.def_ 46 (d := dd45) rfl
  obtain ⟨fd49, F49⟩ := c.def_ 47 (d := dd49) rfl
  obtain ⟨fd50, F50⟩ := c.def_ 48 (d := dd50) rfl
  obtain ⟨fd47, F47⟩ := c.def_ 49 (d := dd47) rfl
  obtain ⟨fd48, F48⟩ := c.def_ 50 (d := dd48) rfl
  obtain ⟨fd51, F51⟩ := c.def_ 51 (d := dd51) rfl
  obtain ⟨fd52, F52⟩ := c.def_ 52 (d := dd52) rfl
  have e := hfa.symm.trans (He.glo_ok X G (c.fact 52 (f := .glo "law") rfl))
  cases e
  refine ⟨fd52, tf.map (He.cT K), spF K (TBs K) (CC K) n52, fun p hp => ?_, fun p hp => ?_, fun p hp => ?_, fun s u => ?_, fun H a ns _ _ hT hS => ?_, fun base KB NB hB => ?_⟩
  · obtain ⟨q, hq, rfl⟩ := List.mem_map.mp hp
    exact cx.empty q hq
  · obtain ⟨q, hq, rfl⟩ := List.mem_map.mp hp
    exact cx.out q hq
  · obtain ⟨q, hq, rfl⟩ := List.mem_map.mp hp
    exact PySem.W.codeHd_of_K X (cx.hd q hq)
  · have b := FunD.bindsA (ps := ["script"]) F52 (fun _ _ _ _ _ _ us hl => match us, hl with | [_], _ => rfl)
    exact b s [u] rfl
  · exact law_entry (fun p hp => by
      have hp : p ∈ TBs K := hp
      simp only [TBs, List.mem_cons, List.not_mem_nil, or_false] at hp
      rcases hp with rfl | rfl
      all_goals exact LamX.TabS.nil (hT _ (by simp [tf]))) hS (law_scr ns) (law_lst ns)
  · have d0 : Cal RW.prog w K mg base (TBs K) (CC K) 1 "is_int" ["value"] f0 := ok0  gg F0 (He.glo_ok X G (c.fact 0 (f := .glo "is_int") rfl))
    have d1 : Cal RW.prog w K mg base (TBs K) (CC K) 2 "is_within" ["value", "low", "high"] f1 := ok1 (g0 := f0) gg F1 (He.glo_ok X G (c.fact 1 (f := .glo "is_within") rfl)) d0
    have d2 : Cal RW.prog w K mg base (TBs K) (CC K) 3 "is_thing_of" ["size", "value"] f2 := ok2 (g1 := f1) gg F2 (He.glo_ok X G (c.fact 2 (f := .glo "is_thing_of") rfl)) d1
    have d3 : Cal RW.prog w K mg base (TBs K) (CC K) 4 "is_pair_of" ["size", "value"] f3 := ok3 (g2 := f2) gg F3 (He.glo_ok X G (c.fact 3 (f := .glo "is_pair_of") rfl)) d2
    have d7 : Cal RW.prog w K mg base (TBs K) (CC K) 1 "reading_of" ["size", "pairs"] f7 := ok7  gg F7 (He.glo_ok X G (c.fact 4 (f := .glo "reading_of") rfl))
    have d8 : Cal RW.prog w K mg base (TBs K) (CC K) 2 "ring_in" ["size", "pairs"] f8 := ok8 (g7 := f7) gg F8 (He.glo_ok X G (c.fact 5 (f := .glo "ring_in") rfl)) d7
    have d6 : Cal RW.prog w K mg base (TBs K) (CC K) 1 "next_in" ["size", "pairs"] f6 := ok6  gg F6 (He.glo_ok X G (c.fact 6 (f := .glo "next_in") rfl))
    have d12 : Cal RW.prog w K mg base (TBs K) (CC K) 2 "way_beside" ["size", "pairs", "pair"] f12 := ok12 (g6 := f6) gg F12 (He.glo_ok X G (c.fact 7 (f := .glo "way_beside") rfl)) d6
    have d13 : Cal RW.prog w K mg base (TBs K) (CC K) 3 "bar_in_orders" ["size", "pairs"] f13 := ok13 (g8 := f8) (g12 := f12) gg F13 (He.glo_ok X G (c.fact 8 (f := .glo "bar_in_orders") rfl)) d8 d12
    have d14 : Cal RW.prog w K mg base (TBs K) (CC K) 5 "is_order_of" ["value"] f14 := ok14 (g1 := f1) (g3 := f3) (g13 := f13) gg F14 (He.glo_ok X G (c.fact 9 (f := .glo "is_order_of") rfl)) d1 d3 d13
    have dm14 : Cal RW.prog w K mg base (TBs K) (CC K) 5 "is_order_of" ["value"] m14 := Cal.le le14 d14
    have d17 : CalV RW.prog w K mg base (TBs K) (CC K) 6 "require_order" 0 n17 := ok17 (g14 := m14) gg F17 (He.glo_ok X G (c.fact 10 (f := .glo "require_order") rfl)) dm14
    have d9 : Cal RW.prog w K mg base (TBs K) (CC K) 2 "reach_in" ["size", "pairs"] f9 := ok9 (g6 := f6) gg F9 (He.glo_ok X G (c.fact 11 (f := .glo "reach_in") rfl)) d6
    have d15 : Cal RW.prog w K mg base (TBs K) (CC K) 3 "up_in" ["order"] f15 := ok15 (g9 := f9) gg F15 (He.glo_ok X G (c.fact 12 (f := .glo "up_in") rfl)) d9
    have d16 : Cal RW.prog w K mg base (TBs K) (CC K) 3 "down_in" ["order"] f16 := ok16 (g9 := f9) gg F16 (He.glo_ok X G (c.fact 13 (f := .glo "down_in") rfl)) d9
    have d18 : Cal RW.prog w K mg base (TBs K) (CC K) 1 "least_of" ["up", "things"] f18 := ok18  gg F18 (He.glo_ok X G (c.fact 14 (f := .glo "least_of") rfl))
    have d19 : Cal RW.prog w K mg base (TBs K) (CC K) 2 "bounds_at" ["up", "one", "far"] f19 := ok19 (g18 := f18) gg F19 (He.glo_ok X G (c.fact 15 (f := .glo "bounds_at") rfl)) d18
    have d20 : Cal RW.prog w K mg base (TBs K) (CC K) 4 "bar_in_halls" ["order"] f20 := ok20 (g15 := f15) (g16 := f16) (g19 := f19) gg F20 (He.glo_ok X G (c.fact 16 (f := .glo "bar_in_halls") rfl)) d15 d16 d19
    have d21 : Cal RW.prog w K mg base (TBs K) (CC K) 6 "is_hall_of" ["value"] n21 := ok21 (g14 := m14) (g20 := f20) gg F21 (He.glo_ok X G (c.fact 17 (f := .glo "is_hall_of") rfl)) dm14 d20
    have dm21 : Cal RW.prog w K mg base (TBs K) (CC K) 6 "is_hall_of" ["value"] m21 := Cal.le le21 d21
    have d22 : CalV RW.prog w K mg base (TBs K) (CC K) 7 "require_hall" 0 n22 := ok22 (g21 := m21) gg F22 (He.glo_ok X G (c.fact 18 (f := .glo "require_hall") rfl)) dm21
    have d30 : Cal RW.prog w K mg base (TBs K) (CC K) 4 "unlike_pairs" ["order", "hall", "row"] f30 := ok30 (g15 := f15) gg F30 (He.glo_ok X G (c.fact 19 (f := .glo "unlike_pairs") rfl)) d15
    have d31 : Cal RW.prog w K mg base (TBs K) (CC K) 1 "missed_in" ["lists", "back", "row"] f31 := ok31  gg F31 (He.glo_ok X G (c.fact 20 (f := .glo "missed_in") rfl))
    have d32 : Cal RW.prog w K mg base (TBs K) (CC K) 5 "bars_of" ["order", "hall", "row"] f32 := ok32 (g15 := f15) (g16 := f16) (g30 := f30) (g31 := f31) gg F32 (He.glo_ok X G (c.fact 21 (f := .glo "bars_of") rfl)) d15 d16 d30 d31
    have d34 : Cal RW.prog w K mg base (TBs K) (CC K) 3 "require_map" ["size", "goal_size", "row"] f34 := ok34 (g1 := f1) gg F34 (He.glo_ok X G (c.fact 22 (f := .glo "require_map") rfl)) d1
    have d44 : Cal RW.prog w K mg base (TBs K) (CC K) 8 "is_completion_paper" ["order", "hall", "map_row", "value"] n44 := ok44 (g1 := f1) (g17 := n17) (g22 := n22) (g32 := f32) (g34 := f34) gg F44 (He.glo_ok X G (c.fact 23 (f := .glo "is_completion_paper") rfl)) d1 d17 d22 d32 d34
    have d46 : Cal RW.prog w K mg base (TBs K) (CC K) 1 "_law_bag" ["script", "spot"] f46 := ok46  gg F46 (He.glo_ok X G (c.fact 24 (f := .glo "_law_bag") rfl))
    have d23 : Cal RW.prog w K mg base (TBs K) (CC K) 1 "common_of" ["lists", "lot", "size"] f23 := ok23  gg F23 (He.glo_ok X G (c.fact 25 (f := .glo "common_of") rfl))
    have d24 : Cal RW.prog w K mg base (TBs K) (CC K) 4 "upper_in_all" ["order", "lot"] f24 := ok24 (g15 := f15) (g23 := f23) gg F24 (He.glo_ok X G (c.fact 26 (f := .glo "upper_in_all") rfl)) d15 d23
    have d25 : Cal RW.prog w K mg base (TBs K) (CC K) 4 "lower_in_all" ["order", "lot"] f25 := ok25 (g16 := f16) (g23 := f23) gg F25 (He.glo_ok X G (c.fact 27 (f := .glo "lower_in_all") rfl)) d16 d23
    have d26 : Cal RW.prog w K mg base (TBs K) (CC K) 5 "around_in" ["order", "lot"] f26 := ok26 (g24 := f24) (g25 := f25) gg F26 (He.glo_ok X G (c.fact 28 (f := .glo "around_in") rfl)) d24 d25
    have d4 : Cal RW.prog w K mg base (TBs K) (CC K) 4 "are_within" ["value", "size"] f4 := ok4 (g2 := f2) gg F4 (He.glo_ok X G (c.fact 29 (f := .glo "are_within") rfl)) d2
    have d5 : CalV RW.prog w K mg base (TBs K) (CC K) 5 "require_lot" 1 f5 := ok5 (g4 := f4) gg F5 (He.glo_ok X G (c.fact 30 (f := .glo "require_lot") rfl)) d4
    have d33 : Cal RW.prog w K mg base (TBs K) (CC K) 7 "require_order_lot" ["order", "lot"] n33 := ok33 (g5 := f5) (g17 := n17) gg F33 (He.glo_ok X G (c.fact 31 (f := .glo "require_order_lot") rfl)) d5 d17
    have d35 : Cal RW.prog w K mg base (TBs K) (CC K) 8 "is_cut" ["order", "lot"] n35 := ok35 (g26 := f26) (g33 := n33) gg F35 (He.glo_ok X G (c.fact 32 (f := .glo "is_cut") rfl)) d26 d33
    have d36 : Cal RW.prog w K mg base (TBs K) (CC K) 8 "cut_around" ["order", "lot"] n36 := ok36 (g26 := f26) (g33 := n33) gg F36 (He.glo_ok X G (c.fact 33 (f := .glo "cut_around") rfl)) d26 d33
    have d37 : Cal RW.prog w K mg base (TBs K) (CC K) 8 "upper_lot" ["order", "lot"] n37 := ok37 (g24 := f24) (g33 := n33) gg F37 (He.glo_ok X G (c.fact 34 (f := .glo "upper_lot") rfl)) d24 d33
    have d38 : Cal RW.prog w K mg base (TBs K) (CC K) 8 "lower_lot" ["order", "lot"] n38 := ok38 (g25 := f25) (g33 := n33) gg F38 (He.glo_ok X G (c.fact 35 (f := .glo "lower_lot") rfl)) d25 d33
    have d27 : Cal RW.prog w K mg base (TBs K) (CC K) 4 "cuts_in" ["order"] f27 := ok27 (g16 := f16) gg F27 (He.glo_ok X G (c.fact 36 (f := .glo "cuts_in") rfl)) d16
    have dm27 : Cal RW.prog w K mg base (TBs K) (CC K) 4 "cuts_in" ["order"] m27 := Cal.le le27 d27
    have d39 : Cal RW.prog w K mg base (TBs K) (CC K) 7 "cuts" ["order"] n39 := ok39 (g17 := n17) (g27 := m27) gg F39 (He.glo_ok X G (c.fact 37 (f := .glo "cuts") rfl)) d17 dm27
    have d10 : Cal RW.prog w K mg base (TBs K) (CC K) 1 "covers_from" ["up"] f10 := ok10  gg F10 (He.glo_ok X G (c.fact 38 (f := .glo "covers_from") rfl))
    have d11 : Cal RW.prog w K mg base (TBs K) (CC K) 2 "order_from" ["size", "up"] f11 := ok11 (g10 := f10) gg F11 (He.glo_ok X G (c.fact 39 (f := .glo "order_from") rfl)) d10
    have d28 : Cal RW.prog w K mg base (TBs K) (CC K) 3 "hall_of_cuts" ["lots"] f28 := ok28 (g11 := f11) gg F28 (He.glo_ok X G (c.fact 40 (f := .glo "hall_of_cuts") rfl)) d11
    have d40 : Cal RW.prog w K mg base (TBs K) (CC K) 7 "completion" ["order"] n40 := ok40 (g17 := n17) (g27 := m27) (g28 := f28) gg F40 (He.glo_ok X G (c.fact 41 (f := .glo "completion") rfl)) d17 dm27 d28
    have d29 : Cal RW.prog w K mg base (TBs K) (CC K) 4 "places_in" ["order", "lots"] f29 := ok29 (g16 := f16) gg F29 (He.glo_ok X G (c.fact 42 (f := .glo "places_in") rfl)) d16
    have d41 : Cal RW.prog w K mg base (TBs K) (CC K) 7 "places" ["order"] n41 := ok41 (g17 := n17) (g27 := m27) (g29 := f29) gg F41 (He.glo_ok X G (c.fact 43 (f := .glo "places") rfl)) d17 dm27 d29
    have d42 : Cal RW.prog w K mg base (TBs K) (CC K) 7 "new_cuts" ["order"] n42 := ok42 (g16 := f16) (g17 := n17) (g27 := m27) gg F42 (He.glo_ok X G (c.fact 44 (f := .glo "new_cuts") rfl)) d16 d17 dm27
    have d43 : Cal RW.prog w K mg base (TBs K) (CC K) 8 "completion_paper" ["order", "hall", "map_row"] n43 := ok43 (g17 := n17) (g22 := n22) (g32 := f32) (g34 := f34) gg F43 (He.glo_ok X G (c.fact 45 (f := .glo "completion_paper") rfl)) d17 d22 d32 d34
    have d45 : Cal RW.prog w K mg base (TBs K) (CC K) 7 "does_lie" ["order", "far_order", "map_row"] n45 := ok45 (g17 := n17) (g30 := f30) (g34 := f34) gg F45 (He.glo_ok X G (c.fact 46 (f := .glo "does_lie") rfl)) d17 d30 d34
    have dMet : Met RW.prog w K mg (TBs K) (CC K) "_law_met" 2 hMet bMet := ok49 gg F49 (He.glo_ok X G (c.fact 47 (f := .glo "_law_met") rfl))
    obtain ⟨oc50, od50, dV50, kV50, doc50, pm50, an50, cdv50, ct50, osl50, hfd50, lk50, hcd50, _, _⟩ := F50.ex
    obtain ⟨cc50, hc50⟩ := He.codeIn_ref hcd50
    have hcc50 : fd50.code = .ref cc50 := by rw [hfd50]; exact hc50
    have ec50 : He.codeOf K ("_law_all", none) = cc50 := He.codeOf_eq lk50 hcc50
    have T50 : LamX.TabB base mg cc50 (He.cT K ("_law_all", none)).2 := by rw [← ec50]; exact hB (He.cT K ("_law_all", none)) (List.mem_map.mpr ⟨("_law_all", none), by simp [tf], rfl⟩)
    have hu50 : ∀ p ∈ TBs K, p.1 = (He.cT K ("_law_all", none)).2 → p.2 = ("_law_all.<locals>.<lambda>" : Str) := by
      intro p hp e
      simp only [TBs, List.mem_cons, List.not_mem_nil, or_false] at hp
      rcases hp with rfl | rfl
      · rfl
      · exact absurd e.symm (ne_nb (ex0 cx.more))
    have mT50 : ((He.cT K ("_law_all", none)).2, ("_law_all.<locals>.<lambda>" : Str)) ∈ TBs K := by simp [TBs]
    have d50 : Cal RW.prog w K mg base (TBs K) (CC K) 11 "_law_all" ["order", "lot", "hall", "row"] n50 := ok50 (g35 := n35) (g36 := n36) (g37 := n37) (g38 := n38) (g39 := n39) (g40 := n40) (g41 := n41) (g42 := n42) (g43 := n43) (g44 := n44) (g45 := n45) gg F50 (He.glo_ok X G (c.fact 48 (f := .glo "_law_all") rfl)) hcc50 T50 (fun _ => rfl) mT50 hu50 dMet d35 d36 d37 d38 d39 d40 d41 d42 d43 d44 d45
    have d47 : Cal RW.prog w K mg base (TBs K) (CC K) 1 "_law_draw" ["bag", "many"] f47 := ok47  gg F47 (He.glo_ok X G (c.fact 49 (f := .glo "_law_draw") rfl))
    have d48 : Cal RW.prog w K mg base (TBs K) (CC K) 2 "_law_one_of" ["bag", "items"] f48 := ok48 (g47 := f47) gg F48 (He.glo_ok X G (c.fact 50 (f := .glo "_law_one_of") rfl)) d47
    obtain ⟨oc51, od51, dV51, kV51, doc51, pm51, an51, cdv51, ct51, osl51, hfd51, lk51, hcd51, _, _⟩ := F51.ex
    obtain ⟨cc51, hc51⟩ := He.codeIn_ref hcd51
    have hcc51 : fd51.code = .ref cc51 := by rw [hfd51]; exact hc51
    have ec51 : He.codeOf K ("_law_right", none) = cc51 := He.codeOf_eq lk51 hcc51
    have T51 : LamX.TabB base mg cc51 (He.cT K ("_law_right", none)).2 := by rw [← ec51]; exact hB (He.cT K ("_law_right", none)) (List.mem_map.mpr ⟨("_law_right", none), by simp [tf], rfl⟩)
    have hu51 : ∀ p ∈ TBs K, p.1 = (He.cT K ("_law_right", none)).2 → p.2 = ("_law_right.<locals>.<lambda>" : Str) := by
      intro p hp e
      simp only [TBs, List.mem_cons, List.not_mem_nil, or_false] at hp
      rcases hp with rfl | rfl
      · exact absurd e (ne_nb (ex0 cx.more))
      · rfl
    have mT51 : ((He.cT K ("_law_right", none)).2, ("_law_right.<locals>.<lambda>" : Str)) ∈ TBs K := by simp [TBs]
    have d51 : Cal RW.prog w K mg base (TBs K) (CC K) 14 "_law_right" ["bag"] n51 := ok51 (g45_1 := n45) (g48_1 := f48) (g48_2 := f48) (g48_3 := f48) (g48_4 := f48) (g50_1 := n50) (g50_2 := n50) (g50_3 := n50) (g50_4 := n50) (g50_5 := n50) gg F51 (He.glo_ok X G (c.fact 51 (f := .glo "_law_right") rfl)) hcc51 T51 (fun _ => rfl) mT51 hu51 dMet d45 d48 d48 d48 d48 d50 d50 d50 d50 d50
    exact okO (g44 := n44) (g46 := f46) (g50 := n50) (g51 := n51) gg F52 d44 d46 d50 d51
end PB.K18
open PySem PySem.W PySem.Calls PyProof.Rows in
theorem PySem.Challenge.cw_bothbounds_k18_errors_of_cuts_holds : PySem.Challenge.rw_bothbounds_k18_errors_of_cuts.Holds := by
  w_on; o_law
  refine HandSHeadRun.head_any (r := OpenLaw.row PySem.Challenge.rw_bothbounds_k18_errors_of_cuts) (q := view (OpenLaw.row PySem.Challenge.rw_bothbounds_k18_errors_of_cuts).prog [79]) (H := PB.K18.hk) (ob := PB.K18.ob) (M := 6000) (loose := PB.K18.loose) (d := HandSHeadRun.topDef (OpenLaw.row PySem.Challenge.rw_bothbounds_k18_errors_of_cuts).prog 79) (kwd := []) PB.K18.ob_eq
    (by kernel_rfl) (fun s => by kernel_rfl) PB.K18.run (by kernel_rfl) (by kernel_rfl) (by kernel_rfl) (by rfl) (by first | assumption | decide +kernel) (by decide +kernel) ⟨rfl, rfl, rfl, rfl, rfl, by decide +kernel⟩ ?hw ?hc
  case hw => w_witness2
  case hc =>
    refine LamX.walk_ofTsE (l := PySem.Challenge.rw_bothbounds_k18_errors_of_cuts) (n := 63) (k := 15) (x := "script") (CX := fun w => L2.CX (PySem.Challenge.rw_bothbounds_k18_errors_of_cuts).prog w) rfl (by decide) (by kernel_rfl) ⟨rfl, by decide, by decide⟩ ?F ?X
    case X =>
      intro w H s e s' z
      obtain ⟨_, _, _, _, _, _, _, _, _, _, _, _, u⟩ := z
      exact u.elim
    intro w mg fa h Y G hmg0
    obtain ⟨K, KX, c, es⟩ := Y
    have hmg : mg ("law" : PySem.Str) = some (.ref fa) := by
      have e : (HandSHeadRun.topDef (OpenLaw.row PySem.Challenge.rw_bothbounds_k18_errors_of_cuts).prog 79).name = ("law" : PySem.Str) := by kernel_rfl
      rw [← e]
      exact hmg0
    exact ⟨K, KX, PB.K18.facts KX G hmg c es⟩
end
