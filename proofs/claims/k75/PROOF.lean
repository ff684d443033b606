import PyProof.Rows.All
import Wide.All
import OpenK.AllK
import Wide.FinOn
import HandS.ForMost
import HandS.ForExc
import HandS.Flow
import HandS.Wide
import HandS.IsInst
import HandS.Deep
import HandS.TryMany
import HandS.ExcInit
import KE.KDictKeyed
import HandS.Star
import PyProof.NeKinds
import HandS.TupAny
import HandS.TupMul
import HandS.Conv
import HandS.Style
import HandS.Text
import PyProof.SeqIndex
import HandS.SortRule
import HandS.TupLe
import HandS.SortInts
import KE.KSortTupAny
import HandS.Iter
import HandS.Zip
import HandS.ExcOwn
import HandS.Small
import KE.GoesMore
import HandS.TupLen
import HandS.ListItems
import HandS.DictComp
import HandS.SetFor
import HandS.Strs
import HandS.Head0
import HandS.Head1
import HandS.Head2
import HandS.HeadEnd
import HandS.HeadHook1
import HandS.HeadHook2
import PyProof.ExcBaseAll.ValueError
import PySem.Challenge.RW_fingercounts_k75_chances_by_hand_and_ref
set_option Elab.async false
set_option linter.all false
set_option maxRecDepth 100000
section
/-! FPS: the evaluator as small combinators, made for the kernel. Values are trees; lists, dicts and instances
stand in a heap of their own (a trie); names stand in records read by projections. -/
namespace FP

inductive Vl where
  | non | bl (b : Bool) | int (i : Int) | str (s : List Nat) | tup (xs : List Vl) | loc (n : Nat) | exc (v : List Vl)
  /-- a list that nothing changes (the script) -/
  | fl (xs : List Vl)
  deriving Inhabited
inductive Ob where
  | lst (xs : List Vl)
  | dic (lk : Bool) (es : List (Vl × Vl))
  | ins (c : Nat) (fs : List (Nat × Vl))
  deriving Inhabited
/-- the heap's tree: place 0 at the root, m + 1 to the left (m even) or right at m / 2 -/
inductive Hr where
  | nil | nd (o : Ob) (l r : Hr)
  deriving Inhabited
structure He where
  n : Nat
  t : Hr
  deriving Inhabited
inductive Rs (α : Type) where
  | ok (a : α) (h : He) | ex (c : Nat) (v : List Vl) (h : He) | bad (k : Nat)
  deriving Inhabited
def Rs.bind {α β : Type} (x : Rs α) (k : α → He → Rs β) : Rs β := match x with
  | .ok a h => k a h
  | .ex c v h => .ex c v h
  | .bad n => .bad n

def Hr.get : Hr → Nat → Option Ob
  | .nil, _ => none
  | .nd o l r, q => match q with
    | 0 => some o
    | m + 1 => match Nat.mod m 2 with
      | 0 => l.get (Nat.div m 2)
      | _ + 1 => r.get (Nat.div m 2)
def Hr.set : Hr → Nat → Ob → Hr
  | .nil, q, o => match q with
    | 0 => .nd o .nil .nil
    | _ + 1 => .nil
  | .nd o l r, q, u => match q with
    | 0 => .nd u l r
    | m + 1 => match Nat.mod m 2 with
      | 0 => .nd o (l.set (Nat.div m 2) u) r
      | _ + 1 => .nd o l (r.set (Nat.div m 2) u)
def He.get (h : He) (k : Nat) : Option Ob := h.t.get k
def frN {α : Type} (n : Nat) (k : Nat → α) : α := match n with
  | 0 => k 0
  | m + 1 => k (Nat.succ m)
def He.set (h : He) (k : Nat) (o : Ob) : He := ⟨h.n, h.t.set k o⟩
/-- a new object, at the first free place -/
def He.new {α : Type} (h : He) (o : Ob) (k : Nat → He → α) : α := frN h.n fun n => k n ⟨Nat.succ n, h.t.set n o⟩
def He.nil : He := ⟨0, .nil⟩

def nth {α : Type} : List α → Nat → Option α
  | [], _ => none
  | x :: xs, n => match n with
    | 0 => some x
    | m + 1 => nth xs m
def put {α : Type} : List α → Nat → α → List α
  | [], _, _ => []
  | x :: xs, n, y => match n with
    | 0 => y :: xs
    | m + 1 => x :: put xs m y

structure E7 (α : Type) where
  a : α
  b : α
  c : α
  d : α
  e : α
  f : α
  g : α
def acc7 {α : Type} (i : Nat) (r : E7 α) : α := match i with
  | 0 => r.a | 1 => r.b | 2 => r.c | 3 => r.d | 4 => r.e | 5 => r.f | _ => r.g
def set7 {α : Type} (i : Nat) (v : α) (r : E7 α) : E7 α := match i with
  | 0 => ⟨v, r.b, r.c, r.d, r.e, r.f, r.g⟩ | 1 => ⟨r.a, v, r.c, r.d, r.e, r.f, r.g⟩ | 2 => ⟨r.a, r.b, v, r.d, r.e, r.f, r.g⟩ | 3 => ⟨r.a, r.b, r.c, v, r.e, r.f, r.g⟩
  | 4 => ⟨r.a, r.b, r.c, r.d, v, r.f, r.g⟩ | 5 => ⟨r.a, r.b, r.c, r.d, r.e, v, r.g⟩ | _ => ⟨r.a, r.b, r.c, r.d, r.e, r.f, v⟩
abbrev Env := E7 (E7 (Option Vl))
def rep7 {α : Type} (x : α) : E7 α := ⟨x, x, x, x, x, x, x⟩
def env0 : Env := rep7 (rep7 none)
abbrev Get := Env → Option Vl
abbrev Set := Option Vl → Env → Env
def gOf (i : Nat) : Get := fun r => acc7 (i % 7) (acc7 (i / 7) r)
def sOf (i : Nat) : Set := fun v r => set7 (i / 7) (set7 (i % 7) v (acc7 (i / 7) r)) r
abbrev FnF := List Vl → He → Rs Vl
abbrev Tab := E7 (E7 (E7 FnF))
abbrev TAc := Tab → FnF
def tOf (i : Nat) : TAc := fun r => acc7 (i % 7) (acc7 (i / 7 % 7) (acc7 (i / 49) r))

def frI {α : Type} (i : Int) (k : Int → α) : α := match i with
  | .ofNat n => frN n fun n => k (.ofNat n)
  | .negSucc n => frN n fun n => k (.negSucc n)
def ibeq (i j : Int) : Bool := match i with
  | .ofNat a => match j with
    | .ofNat b => Nat.beq a b
    | .negSucc _ => false
  | .negSucc a => match j with
    | .ofNat _ => false
    | .negSucc b => Nat.beq a b
def ible (i j : Int) : Bool := match i with
  | .ofNat a => match j with
    | .ofNat b => Nat.ble a b
    | .negSucc _ => false
  | .negSucc a => match j with
    | .ofNat _ => true
    | .negSucc b => Nat.ble b a
def iblt (i j : Int) : Bool := !ible j i
/-- a number's size is below 2 ^ k -/
def ismall (i : Int) (k : Nat) : Bool := match i with
  | .ofNat n => Nat.blt n (Nat.pow 2 k)
  | .negSucc n => Nat.blt (Nat.succ n) (Nat.pow 2 k)
def iadd {α : Type} (i j : Int) (k : Int → α) : α := match i with
  | .ofNat a => match j with
    | .ofNat b => frN (Nat.add a b) fun n => k (.ofNat n)
    | _ => frI (Int.add i j) k
  | _ => frI (Int.add i j) k
def imul {α : Type} (i j : Int) (k : Int → α) : α := match i with
  | .ofNat a => match j with
    | .ofNat b => frN (Nat.mul a b) fun n => k (.ofNat n)
    | _ => frI (Int.mul i j) k
  | _ => frI (Int.mul i j) k

def slt : List Nat → List Nat → Bool
  | [], bs => match bs with
    | [] => false
    | _ :: _ => true
  | a :: as, bs => match bs with
    | [] => false
    | b :: bs => match Nat.beq a b with
      | true => slt as bs
      | false => Nat.blt a b
def seq : List Nat → List Nat → Bool
  | [], bs => match bs with
    | [] => true
    | _ :: _ => false
  | a :: as, bs => match bs with
    | [] => false
    | b :: bs => match Nat.beq a b with
      | true => seq as bs
      | false => false
def allEq (f : Vl → Vl → Option Bool) : List Vl → List Vl → Option Bool
  | [], bs => match bs with
    | [] => some true
    | _ :: _ => some false
  | a :: as, bs => match bs with
    | [] => some false
    | b :: bs => match f a b with
      | some c => match c with
        | true => allEq f as bs
        | false => match allEq f as bs with
          | some _ => some false
          | none => none
      | none => none
def b2i (b : Bool) : Int := match b with
  | true => 1
  | false => 0
/-- keys, and what is sorted: ints, texts, tuples of such -/
def keq : Nat → Vl → Vl → Option Bool
  | 0, _, _ => none
  | n + 1, a, b => match a with
    | .int i => match b with
      | .int j => some (ibeq i j)
      | .str _ => some false
      | .tup _ => some false
      | _ => none
    | .str s => match b with
      | .int _ => some false
      | .str t => some (seq s t)
      | .tup _ => some false
      | _ => none
    | .tup xs => match b with
      | .int _ => some false
      | .str _ => some false
      | .tup ys => allEq (keq n) xs ys
      | _ => none
    | _ => none
def ked (a b : Vl) : Option Bool := keq 60 a b
/-- == of data, lists read in the heap -/
def eqv (h : He) : Nat → Vl → Vl → Option Bool
  | 0, _, _ => none
  | n + 1, a, b => match a with
    | .int i => match b with
      | .int j => some (ibeq i j)
      | .bl q => some (ibeq i (b2i q))
      | .exc _ => none
      | .fl _ => none
      | .loc q => match h.get q with
        | some (.lst _) => some false
        | _ => none
      | _ => some false
    | .str s => match b with
      | .str t => some (seq s t)
      | .exc _ => none
      | .fl _ => none
      | .loc q => match h.get q with
        | some (.lst _) => some false
        | _ => none
      | _ => some false
    | .tup xs => match b with
      | .tup ys => allEq (eqv h n) xs ys
      | .exc _ => none
      | .fl _ => none
      | .loc q => match h.get q with
        | some (.lst _) => some false
        | _ => none
      | _ => some false
    | .non => match b with
      | .non => some true
      | .exc _ => none
      | .fl _ => none
      | .loc q => match h.get q with
        | some (.lst _) => some false
        | _ => none
      | _ => some false
    | .bl p => match b with
      | .bl q => some (p == q)
      | .int j => some (ibeq (b2i p) j)
      | .exc _ => none
      | .fl _ => none
      | .loc q => match h.get q with
        | some (.lst _) => some false
        | _ => none
      | _ => some false
    | .loc p => match h.get p with
      | some (.lst xs) => match b with
        | .loc q => match h.get q with
          | some (.lst ys) => allEq (eqv h n) xs ys
          | _ => none
        | .exc _ => none
        | .fl _ => none
        | _ => some false
      | _ => none
    | .exc _ => none
    | .fl _ => none
def eqd (h : He) (a b : Vl) : Option Bool := eqv h 60 a b
def lexLt (eq lt : Vl → Vl → Option Bool) : List Vl → List Vl → Option Bool
  | [], bs => match bs with
    | [] => some false
    | _ :: _ => some true
  | a :: as, bs => match bs with
    | [] => some false
    | b :: bs => match eq a b with
      | some c => match c with
        | true => lexLt eq lt as bs
        | false => lt a b
      | none => none
def ltv : Nat → Vl → Vl → Option Bool
  | 0, _, _ => none
  | n + 1, a, b => match a with
    | .int i => match b with
      | .int j => some (iblt i j)
      | _ => none
    | .str s => match b with
      | .str t => some (slt s t)
      | _ => none
    | .tup xs => match b with
      | .tup ys => lexLt (keq n) (ltv n) xs ys
      | _ => none
    | _ => none
def ltd (a b : Vl) : Option Bool := ltv 60 a b

def insF (x : Vl) : List Vl → Option (List Vl)
  | [] => some [x]
  | y :: ys => match ltd y x with
    | some c => match c with
      | true => match insF x ys with
        | some zs => some (y :: zs)
        | none => none
      | false => some (x :: y :: ys)
    | none => none
def sortL : List Vl → Option (List Vl)
  | [] => some []
  | x :: xs => match sortL xs with
    | some ys => insF x ys
    | none => none
/-- a sorted list, each thing once (of equal ones the first) -/
def onceL : List Vl → Option (List Vl)
  | [] => some []
  | x :: r => match onceL r with
    | some zs => match zs with
      | [] => some [x]
      | y :: ys => match ked x y with
        | some c => match c with
          | true => some (x :: ys)
          | false => some (x :: y :: ys)
        | none => none
    | none => none

def dget (k : Vl) : List (Vl × Vl) → Option (Option Vl)
  | [] => some none
  | p :: r => match ked p.1 k with
    | some c => match c with
      | true => some (some p.2)
      | false => dget k r
    | none => none
def dput (k v : Vl) : List (Vl × Vl) → Option (List (Vl × Vl))
  | [] => some [(k, v)]
  | p :: r => match ked p.1 k with
    | some c => match c with
      | true => some ((p.1, v) :: r)
      | false => match dput k v r with
        | some z => some (p :: z)
        | none => none
    | none => none
def dputs : List (Vl × Vl) → List (Vl × Vl) → Option (List (Vl × Vl))
  | es, [] => some es
  | es, p :: r => match dput p.1 p.2 es with
    | some z => dputs z r
    | none => none
/-- a key that may stand in a dict or a set -/
def keyOk : Nat → Vl → Bool
  | 0, _ => false
  | n + 1, k => match k with
    | .int _ => true
    | .str _ => true
    | .tup xs => xs.all (keyOk n)
    | _ => false
def kok (k : Vl) : Bool := keyOk 60 k
/-- a key that may stand in a dict by tuples -/
def kdk (k : Vl) : Bool := match k with
  | .tup _ => keyOk 8 k
  | _ => false
/-- not too many entries -/
def few {α : Type} (es : List α) : Bool := Nat.ble es.length 10000

def bv (r : Option Bool) (h : He) : Rs Vl := match r with
  | some b => .ok (.bl b) h
  | none => .bad 10
def nv (r : Option Bool) (h : He) : Rs Vl := match r with
  | some b => .ok (.bl (!b)) h
  | none => .bad 11
def isNil {α : Type} (xs : List α) : Bool := match xs with
  | [] => true
  | _ :: _ => false
def tru (h : He) (v : Vl) : Option Bool := match v with
  | .non => some false
  | .bl b => some b
  | .int i => some (!ibeq i 0)
  | .tup xs => some (!isNil xs)
  | .loc p => match h.get p with
    | some (.lst xs) => some (!isNil xs)
    | _ => none
  | _ => none
def seqOf (h : He) (v : Vl) : Option (List Vl) := match v with
  | .tup xs => some xs
  | .fl xs => some xs
  | .loc p => match h.get p with
    | some (.lst xs) => some xs
    | _ => none
  | _ => none
def lenOf (h : He) (v : Vl) : Option Nat := match v with
  | .tup xs => some xs.length
  | .fl xs => some xs.length
  | .str s => match Nat.ble s.length 10000 with
    | true => some s.length
    | false => none
  | .loc p => match h.get p with
    | some (.lst xs) => some xs.length
    | some (.dic _ es) => some es.length
    | _ => none
  | _ => none
def memL (h : He) (x : Vl) : List Vl → Option Bool
  | [] => some false
  | y :: ys => match eqd h y x with
    | some c => match c with
      | true => match memL h x ys with
        | some _ => some true
        | none => none
      | false => memL h x ys
    | none => none
def inOf (h : He) (x y : Vl) : Option Bool := match y with
  | .tup xs => memL h x xs
  | .loc p => match h.get p with
    | some (.lst xs) => memL h x xs
    | some (.dic _ es) => match kdk x with
      | true => match dget x es with
        | some r => some r.isSome
        | none => none
      | false => none
    | _ => none
  | .str s => match x with
    | .str [c] => some (s.any (Nat.beq c))
    | _ => none
  | _ => none
/-- a place in so many, from the end if below 0 -/
def ixOf (i : Int) (n : Nat) : Option Nat := match i with
  | .ofNat k => match Nat.blt k n with
    | true => some k
    | false => none
  | .negSucc k => match Nat.blt k n with
    | true => some (Nat.sub (Nat.sub n 1) k)
    | false => none
def nthI {α : Type} (xs : List α) (i : Int) : Option α := match i with
  | .ofNat k => nth xs k
  | .negSucc k => nth xs.reverse k
def clip (i : Int) (n : Nat) : Nat := match i with
  | .ofNat k => Nat.min k n
  | .negSucc k => Nat.sub n (Nat.succ k)
def cutL {α : Type} (xs : List α) (lo hi : Option Int) : List α := match hi with
  | none => match lo with
    | none => xs
    | some i => xs.drop (clip i xs.length)
  | some j => match lo with
    | none => xs.take (clip j xs.length)
    | some i => (xs.take (clip j xs.length)).drop (clip i xs.length)
def optI (v : Vl) : Option (Option Int) := match v with
  | .non => some none
  | .int i => some (some i)
  | _ => none
/-- which items equal x -/
def eqLs (h : He) (x : Vl) : List Vl → Option (List Bool)
  | [] => some []
  | y :: ys => match eqd h y x with
    | some c => match eqLs h x ys with
      | some cs => some (c :: cs)
      | none => none
    | none => none
def firstT : List Bool → Nat → Option Nat
  | [], _ => none
  | c :: cs, k => match c with
    | true => some k
    | false => firstT cs (Nat.succ k)
def manyT : List Bool → Nat → Nat
  | [], k => k
  | c :: cs, k => match c with
    | true => manyT cs (Nat.succ k)
    | false => manyT cs k
def sumL : List Vl → Int → Option Int
  | [], a => some a
  | x :: xs, a => match x with
    | .int i => iadd a i fun s => sumL xs s
    | _ => none
def anyL : List Vl → Option Bool
  | [] => some false
  | x :: r => match x with
    | .bl b => match anyL r with
      | some c => some (b || c)
      | none => none
    | _ => none
def allL : List Vl → Option Bool
  | [] => some true
  | x :: r => match x with
    | .bl b => match allL r with
      | some c => some (b && c)
      | none => none
    | _ => none
/-- of ints -/
def maxL : Int → List Vl → Option Int
  | m, [] => some m
  | m, x :: xs => match x with
    | .int i => match iblt m i with
      | true => maxL i xs
      | false => maxL m xs
    | _ => none
def minL : Int → List Vl → Option Int
  | m, [] => some m
  | m, x :: xs => match x with
    | .int i => match iblt i m with
      | true => minL i xs
      | false => minL m xs
    | _ => none
def digs : Nat → Nat → List Nat → List Nat
  | 0, _, acc => acc
  | f + 1, n, acc => match Nat.blt n 10 with
    | true => (n + 48) :: acc
    | false => digs f (n / 10) ((n % 10 + 48) :: acc)
def strI (i : Int) : List Nat := match i with
  | .ofNat n => digs 400 n []
  | .negSucc n => 45 :: digs 400 (n + 1) []
def undigs : List Nat → Nat → Option Nat
  | [], a => some a
  | c :: r, a => match Nat.ble 48 c && Nat.ble c 57 with
    | true => undigs r (a * 10 + (c - 48))
    | false => none
def isPre : List Nat → List Nat → Bool
  | [], _ => true
  | _ :: _, [] => false
  | a :: as, b :: bs => match Nat.beq a b with
    | true => isPre as bs
    | false => false
/-- split at each sep (not empty) -/
def splitL (sep : List Nat) : Nat → List Nat → List Nat → List (List Nat)
  | 0, s, cur => [cur.reverse ++ s]
  | f + 1, s, cur => match s with
    | [] => [cur.reverse]
    | c :: r => match isPre sep s with
      | true => cur.reverse :: splitL sep f (s.drop sep.length) []
      | false => splitL sep f r (c :: cur)
def joinL (sep : List Nat) : List Vl → Option (List Nat)
  | [] => some []
  | .str s :: r => match r with
    | [] => some s
    | _ => match joinL sep r with
      | some z => some (s ++ sep ++ z)
      | none => none
  | _ => none
/-- the type's number: 0 None, 1 bool, 2 int, 3 str, 4 tuple, 5 list, 6 dict, 7 other -/
def tyOf (h : He) (v : Vl) : Nat := match v with
  | .non => 0
  | .bl _ => 1
  | .int _ => 2
  | .str _ => 3
  | .tup _ => 4
  | .loc p => match h.get p with
    | some (.lst _) => 5
    | some (.dic _ _) => 6
    | _ => 7
  | .exc _ => 7
  | .fl _ => 5
def isTy (t : Nat) : List Nat → Bool
  | [] => false
  | u :: us => match Nat.beq t u with
    | true => true
    | false => match Nat.beq t 1 with
      | true => match Nat.beq u 2 with
        | true => true
        | false => isTy t us
      | false => isTy t us
def newL (xs : List Vl) (h : He) : Rs Vl := h.new (.lst xs) fun n h => .ok (.loc n) h
def newD (es : List (Vl × Vl)) (h : He) : Rs Vl := h.new (.dic false es) fun n h => .ok (.loc n) h
def unpairs : List Vl → Option (List (Vl × Vl))
  | [] => some []
  | .tup [k, v] :: r => match kdk k with
    | true => match unpairs r with
      | some z => some ((k, v) :: z)
      | none => none
    | false => none
  | _ => none
def pairV (p : Vl × Vl) : Vl := .tup [p.1, p.2]
/-- below 2 ^ 64 by size -/
def small64 (i : Int) : Bool := match i with
  | .ofNat n => Nat.blt n 18446744073709551616
  | .negSucc n => Nat.blt n 18446744073709551615
def small30 (i : Int) : Bool := match i with
  | .ofNat n => Nat.blt n 1073741824
  | .negSucc n => Nat.blt n 1073741823
def fits (i j : Int) : Bool := match small64 i with
  | true => true
  | false => match small64 j with
    | true => true
    | false => match ismall i 60000 with
      | true => ismall j 60000
      | false => false
/-- a divisor -/
def divs (j : Int) : Bool := match small30 j with
  | true => true
  | false => match j with
    | .ofNat _ => ismall j 8999
    | .negSucc _ => false

abbrev P1 := Vl → He → Rs Vl
abbrev P2 := Vl → Vl → He → Rs Vl
abbrev P3 := Vl → Vl → Vl → He → Rs Vl
/-- of the items of a list or tuple -/
abbrev PQ := List Vl → He → Rs Vl
def okI (i : Int) (h : He) : Rs Vl := .ok (.int i) h
/-- not too long, together -/
def sh2 {α : Type} (xs ys : List α) : Bool := Nat.ble (Nat.add xs.length ys.length) 10000
def pAdd : P2 := fun x y h => match x with
  | .int i => match y with
    | .int j => iadd i j fun r => .ok (.int r) h
    | .bl b => iadd i (b2i b) fun r => .ok (.int r) h
    | _ => .bad 20
  | .str s => match y with
    | .str t => match sh2 s t with
      | true => .ok (.str (s ++ t)) h
      | false => .bad 21
    | _ => .bad 21
  | .tup xs => match y with
    | .tup ys => match sh2 xs ys with
      | true => .ok (.tup (xs ++ ys)) h
      | false => .bad 22
    | _ => .bad 22
  | .loc q => match h.get q with
    | some (.lst xs) => match y with
      | .loc r => match h.get r with
        | some (.lst ys) => match sh2 xs ys with
          | true => newL (xs ++ ys) h
          | false => .bad 23
        | _ => .bad 23
      | _ => .bad 24
    | _ => .bad 24
  | _ => .bad 25
def pSub : P2 := fun x y h => match x with
  | .int i => match y with
    | .int j => frI (Int.sub i j) fun r => .ok (.int r) h
    | _ => .bad 27
  | _ => .bad 27
def repN : Nat → List Vl → List Vl
  | 0, _ => []
  | n + 1, xs => xs ++ repN n xs
def pMul : P2 := fun x y h => match y with
  | .int j => match x with
    | .int i => match fits i j with
      | true => imul i j fun r => .ok (.int r) h
      | false => .bad 28
    | .loc q => match h.get q with
      | some (.lst xs) => match j with
        | .ofNat n => match Nat.ble n 10000 && Nat.ble (Nat.mul xs.length n) 10000 with
          | true => newL (repN n xs) h
          | false => .bad 30
        | .negSucc _ => .bad 30
      | _ => .bad 30
    | _ => .bad 31
  | _ => .bad 32
def pFdiv : P2 := fun x y h => match x with
  | .int i => match y with
    | .int j => match ibeq j 0 with
      | true => .bad 34
      | false => match divs j with
        | true => frI (Int.fdiv i j) fun r => .ok (.int r) h
        | false => .bad 35
    | _ => .bad 36
  | _ => .bad 36
def pMod : P2 := fun x y h => match x with
  | .int i => match y with
    | .int j => match ibeq j 0 with
      | true => .bad 37
      | false => frI (Int.fmod i j) fun r => .ok (.int r) h
    | _ => .bad 38
  | _ => .bad 38
def pPow : P2 := fun x y h => match x with
  | .int (.ofNat n) => match y with
    | .int (.ofNat k) => match Nat.blt n 1000 with
      | true => match Nat.blt k 1000 with
        | true => frN (Nat.pow n k) fun r => .ok (.int (.ofNat r)) h
        | false => .bad 39
      | false => .bad 39
    | _ => .bad 40
  | _ => .bad 40
def pNeg : P1 := fun x h => match x with
  | .int i => frI (Int.neg i) fun r => .ok (.int r) h
  | _ => .bad 41
def pNot : P1 := fun x h => nv (tru h x) h
def pEq : P2 := fun x y h => bv (eqd h x y) h
def pNe : P2 := fun x y h => nv (eqd h x y) h
/-- < of ints, or of what may stand in a dict -/
def ltk (x y : Vl) : Option Bool := match x with
  | .int i => match y with
    | .int j => some (iblt i j)
    | _ => none
  | .str _ => ltd x y
  | .tup _ => match kok x with
    | true => match kok y with
      | true => ltd x y
      | false => none
    | false => none
  | _ => none
def pLt : P2 := fun x y h => bv (ltk x y) h
/-- > of ints alone -/
def pGt : P2 := fun x y h => match x with
  | .int i => match y with
    | .int j => .ok (.bl (iblt j i)) h
    | _ => .bad 46
  | _ => .bad 46
def pLe : P2 := fun x y h => match x with
  | .int i => match y with
    | .int j => .ok (.bl (ible i j)) h
    | _ => .bad 47
  | _ => .bad 47
def pGe : P2 := fun x y h => match x with
  | .int i => match y with
    | .int j => .ok (.bl (ible j i)) h
    | _ => .bad 48
  | _ => .bad 48
def isNon (x : Vl) : Option Bool := match x with
  | .non => some true
  | .exc _ => none
  | _ => some false
def pIsN : P1 := fun x h => bv (isNon x) h
def pNotN : P1 := fun x h => nv (isNon x) h
/-- is a bool -/
def isBl (x y : Vl) : Option Bool := match y with
  | .bl q => match x with
    | .bl p => some (p == q)
    | .exc _ => none
    | _ => some false
  | _ => none
def pIs : P2 := fun x y h => bv (isBl x y) h
def pIsnt : P2 := fun x y h => nv (isBl x y) h
def pIn : P2 := fun x y h => bv (inOf h x y) h
def pNotIn : P2 := fun x y h => nv (inOf h x y) h
def pLen : P1 := fun x h => match lenOf h x with
  | some n => frN n fun n => .ok (.int (.ofNat n)) h
  | none => .bad 55
def pAbs : P1 := fun x h => match x with
  | .int i => match i with
    | .ofNat n => .ok (.int (.ofNat n)) h
    | .negSucc n => .ok (.int (.ofNat (Nat.succ n))) h
  | _ => .bad 57
def pInt : P1 := fun x h => match x with
  | .int i => .ok (.int i) h
  | .bl b => .ok (.int (b2i b)) h
  | _ => .bad 60
/-- int of a text of figures -/
def pIntS : P1 := fun x h => match x with
  | .str s => match isNil s with
    | true => .bad 58
    | false => match Nat.blt s.length 600 with
      | true => match undigs s 0 with
        | some n => frN n fun n => .ok (.int (.ofNat n)) h
        | none => .bad 59
      | false => .bad 59
  | _ => .bad 60
def pStr : P1 := fun x h => match x with
  | .int i => match ismall i 1200 with
    | true => .ok (.str (strI i)) h
    | false => .bad 61
  | _ => .bad 62
def pIsinst (ts : List Nat) : P1 := fun x h => match x with
  | .exc _ => .bad 63
  | _ => match Nat.blt (tyOf h x) 7 with
    | true => .ok (.bl (isTy (tyOf h x) ts)) h
    | false => .bad 63
def qSum : PQ := fun xs h => match sumL xs 0 with
  | some i => .ok (.int i) h
  | none => .bad 64
def qAny : PQ := fun xs h => bv (anyL xs) h
def qAll : PQ := fun xs h => bv (allL xs) h
def qMax : PQ := fun xs h => match xs with
  | [] => .bad 71
  | y :: ys => match y with
    | .int i => match maxL i ys with
      | some z => .ok (.int z) h
      | none => .bad 70
    | _ => .bad 70
def qMin : PQ := fun xs h => match xs with
  | [] => .bad 74
  | y :: ys => match y with
    | .int i => match minL i ys with
      | some z => .ok (.int z) h
      | none => .bad 73
    | _ => .bad 73
def pMax2 : P2 := fun x y h => match x with
  | .int i => match y with
    | .int j => match iblt i j with
      | true => .ok (.int j) h
      | false => .ok (.int i) h
    | _ => .bad 76
  | _ => .bad 76
def pMin2 : P2 := fun x y h => match x with
  | .int i => match y with
    | .int j => match iblt j i with
      | true => .ok (.int j) h
      | false => .ok (.int i) h
    | _ => .bad 77
  | _ => .bad 77
def qTuple : PQ := fun xs h => .ok (.tup xs) h
/-- not too long -/
def qTupS : PQ := fun xs h => match Nat.blt xs.length 10000 with
  | true => .ok (.tup xs) h
  | false => .bad 203
def qList : PQ := fun xs h => newL xs h
def qLen : PQ := fun xs h => frN xs.length fun n => .ok (.int (.ofNat n)) h
def qDict : PQ := fun xs h => match unpairs xs with
  | some es => match dputs [] es with
    | some z => newD z h
    | none => .bad 96
  | none => .bad 97
def pIndex : P2 := fun o i h => match o with
  | .fl xs => match i with
    | .int i => match nthI xs i with
      | some v => .ok v h
      | none => .bad 101
    | _ => .bad 103
  | .tup xs => match i with
    | .int i => match nthI xs i with
      | some v => .ok v h
      | none => .bad 101
    | _ => .bad 103
  | .str s => match i with
    | .int i => match Nat.ble s.length 10000 with
      | true => match nthI s i with
        | some c => .ok (.str [c]) h
        | none => .bad 104
      | false => .bad 104
    | _ => .bad 106
  | .loc q => match h.get q with
    | some o => match o with
      | .lst xs => match i with
        | .int i => match nthI xs i with
          | some v => .ok v h
          | none => .bad 107
        | _ => .bad 109
      | .dic _ es => match kdk i with
        | true => match dget i es with
          | some (some v) => .ok v h
          | _ => .bad 110
        | false => .bad 110
      | _ => .bad 111
    | none => .bad 111
  | _ => .bad 112
def pSl (o : Vl) (x y : Option Int) (h : He) : Rs Vl := match o with
  | .tup xs => .ok (.tup (cutL xs x y)) h
  | .fl xs => newL (cutL xs x y) h
  | .str s => match Nat.ble s.length 10000 with
    | true => .ok (.str (cutL s x y)) h
    | false => .bad 113
  | .loc q => match h.get q with
    | some (.lst xs) => newL (cutL xs x y) h
    | _ => .bad 114
  | _ => .bad 115
def pRev : P1 := fun o h => match o with
  | .tup xs => .ok (.tup xs.reverse) h
  | .loc q => match h.get q with
    | some (.lst xs) => newL xs.reverse h
    | _ => .bad 118
  | _ => .bad 119
def pAppend : P2 := fun o x h => match o with
  | .loc q => match h.get q with
    | some (.lst xs) => match Nat.ble xs.length 10000 with
      | true => .ok .non (h.set q (.lst (xs ++ [x])))
      | false => .bad 121
    | _ => .bad 121
  | _ => .bad 122
/-- o.extend(the items) -/
def pExtend (o : Vl) : PQ := fun ys h => match o with
  | .loc q => match h.get q with
    | some (.lst xs) => match sh2 xs ys with
      | true => .ok .non (h.set q (.lst (xs ++ ys)))
      | false => .bad 123
    | _ => .bad 123
  | _ => .bad 124
def dropE : List Vl → List Vl
  | [] => []
  | x :: xs => match xs with
    | [] => []
    | _ :: _ => x :: dropE xs
def pPop : P1 := fun o h => match o with
  | .loc q => match h.get q with
    | some (.lst xs) => match nthI xs (-1) with
      | some v => .ok v (h.set q (.lst (dropE xs)))
      | none => .bad 125
    | _ => .bad 126
  | _ => .bad 127
def pPopAt : P2 := fun o i h => match o with
  | .loc q => match h.get q with
    | some (.lst xs) => match i with
      | .int i => match ixOf i xs.length with
        | some k => match nth xs k with
          | some v => .ok v (h.set q (.lst (xs.eraseIdx k)))
          | none => .bad 128
        | none => .bad 129
      | _ => .bad 129
    | _ => .bad 130
  | _ => .bad 131
def pInsert : P3 := fun o i x h => match o with
  | .loc q => match h.get q with
    | some (.lst xs) => match i with
      | .int (.ofNat k) => match Nat.ble k 10000 with
        | true => match Nat.ble xs.length 10000 with
          | true => .ok .non (h.set q (.lst (xs.take k ++ x :: xs.drop k)))
          | false => .bad 132
        | false => .bad 132
      | _ => .bad 132
    | _ => .bad 132
  | _ => .bad 133
def pIdxOf : P2 := fun o x h => match seqOf h o with
  | some xs => match eqLs h x xs with
    | some cs => match firstT cs 0 with
      | some k => .ok (.int (.ofNat k)) h
      | none => .bad 134
    | none => .bad 134
  | none => .bad 135
def pCount : P2 := fun o x h => match seqOf h o with
  | some xs => match eqLs h x xs with
    | some cs => .ok (.int (.ofNat (manyT cs 0))) h
    | none => .bad 137
  | none => .bad 138
/-- the entry of a key, in a dict -/
def entry (o k : Vl) (h : He) : Option (Option Vl) := match o with
  | .loc q => match h.get q with
    | some (.dic _ es) => match kdk k with
      | true => dget k es
      | false => none
    | _ => none
  | _ => none
def pGet1 : P2 := fun o k h => match entry o k h with
  | some r => match r with
    | some v => .ok v h
    | none => .ok .non h
  | none => .bad 140
def pGet2 : P3 := fun o k d h => match entry o k h with
  | some r => match r with
    | some v => .ok v h
    | none => .ok d h
  | none => .bad 143
def dicSet (q : Nat) (k v : Vl) (h : He) (x : He → Rs Vl) : Rs Vl := match h.get q with
  | some (.dic lk es) => match lk with
    | true => .bad 145
    | false => match kdk k with
      | true => match few es with
        | true => match dput k v es with
          | some z => x (h.set q (.dic false z))
          | none => .bad 145
        | false => .bad 145
      | false => .bad 145
  | _ => .bad 145
def pSetdef : P3 := fun o k d h => match entry o k h with
  | some r => match r with
    | some v => .ok v h
    | none => match o with
      | .loc q => dicSet q k d h fun h => .ok d h
      | _ => .bad 146
  | none => .bad 146
/-- entries put into a dict: none into an empty one, but none at all -/
def updE (es fs : List (Vl × Vl)) : Option (List (Vl × Vl)) := match sh2 es fs with
  | true => match (match isNil es with | true => isNil fs | false => true) with
    | true => dputs es fs
    | false => none
  | false => none
def dicOf (h : He) (v : Vl) : Option (Nat × List (Vl × Vl)) := match v with
  | .loc r => match h.get r with
    | some (.dic lk es) => match lk with
      | true => none
      | false => some (r, es)
    | _ => none
  | _ => none
def pUpdate : P2 := fun o u h => match dicOf h o with
  | some (q, es) => match dicOf h u with
    | some (r, fs) => match Nat.beq q r with
      | true => .bad 149
      | false => match updE es fs with
        | some z => .ok .non (h.set q (.dic false z))
        | none => .bad 149
    | none => .bad 150
  | none => .bad 151
def pSplit : P2 := fun x y h => match x with
  | .str s => match y with
    | .str t => match isNil t with
      | true => .bad 152
      | false => newL ((splitL t (s.length + 1) s []).map .str) h
    | _ => .bad 153
  | _ => .bad 153
def qJoin (o : Vl) : PQ := fun xs h => match o with
  | .str s => match joinL s xs with
    | some z => .ok (.str z) h
    | none => .bad 154
  | _ => .bad 155

abbrev EvE := Env → He → Rs Vl
abbrev EvT := Env → He → Rs Bool
/-- the items of a list or tuple that is walked or taken apart at once -/
abbrev EvQ := Env → He → Rs (List Vl)
def eVar (g : Get) : EvE := fun r h => match g r with
  | some v => .ok v h
  | none => .bad 230
def eCst (v : Vl) : EvE := fun _ h => .ok v h
def e1 (p : P1) (a : EvE) : EvE := fun r h => (a r h).bind fun x h => p x h
def e2 (p : P2) (a b : EvE) : EvE := fun r h => (a r h).bind fun x h => (b r h).bind fun y h => p x y h
def e3 (p : P3) (a b c : EvE) : EvE := fun r h => (a r h).bind fun x h => (b r h).bind fun y h => (c r h).bind fun z h => p x y z h
/-- a method of a list: of it alone, with one, two things, with items -/
def isLst (h : He) (v : Vl) : Bool := match v with
  | .loc q => match h.get q with
    | some (.lst _) => true
    | _ => false
  | _ => false
def eL1 (p : P1) (o : EvE) : EvE := fun r h => (o r h).bind fun v h => match isLst h v with
  | true => p v h
  | false => .bad 234
def eL2 (p : P2) (o x : EvE) : EvE := fun r h => (o r h).bind fun v h => match isLst h v with
  | true => (x r h).bind fun w h => p v w h
  | false => .bad 234
def eL3 (p : P3) (o x y : EvE) : EvE := fun r h => (o r h).bind fun v h => match isLst h v with
  | true => (x r h).bind fun w h => (y r h).bind fun u h => p v w u h
  | false => .bad 234
def eLQ (p : Vl → PQ) (o : EvE) (s : EvQ) : EvE := fun r h => (o r h).bind fun v h => match isLst h v with
  | true => (s r h).bind fun xs h => p v xs h
  | false => .bad 234
/-- .. of a dict that nothing walks -/
def isDic (h : He) (v : Vl) : Bool := match v with
  | .loc q => match h.get q with
    | some (.dic lk _) => !lk
    | _ => false
  | _ => false
def eD2 (p : P2) (o x : EvE) : EvE := fun r h => (o r h).bind fun v h => match isDic h v with
  | true => (x r h).bind fun w h => p v w h
  | false => .bad 235
def eD3 (p : P3) (o x y : EvE) : EvE := fun r h => (o r h).bind fun v h => match isDic h v with
  | true => (x r h).bind fun w h => (y r h).bind fun u h => p v w u h
  | false => .bad 235
/-- .. of a list or a tuple -/
def isSeq (h : He) (v : Vl) : Bool := match v with
  | .tup _ => true
  | .loc q => match h.get q with
    | some (.lst _) => true
    | _ => false
  | _ => false
def eS2 (p : P2) (o x : EvE) : EvE := fun r h => (o r h).bind fun v h => match isSeq h v with
  | true => (x r h).bind fun w h => p v w h
  | false => .bad 234
/-- a list that may be changed -/
def mutOf (h : He) (v : Vl) : Option (List Vl) := match v with
  | .loc p => match h.get p with
    | some (.lst xs) => some xs
    | _ => none
  | _ => none
def qOfM (e : EvE) : EvQ := fun r h => (e r h).bind fun v h => match mutOf h v with
  | some xs => .ok xs h
  | none => .bad 200
/-- o[x:y] -/
def eSlice (o x y : EvE) : EvE := fun r h => (o r h).bind fun v h => (x r h).bind fun w h => match optI w with
  | some i => (y r h).bind fun u h => match optI u with
    | some j => pSl v i j h
    | none => .bad 116
  | none => .bad 116
def eQ (p : PQ) (s : EvQ) : EvE := fun r h => (s r h).bind fun xs h => p xs h
/-- of a value and items -/
def eVQ (p : Vl → PQ) (a : EvE) (s : EvQ) : EvE := fun r h => (a r h).bind fun x h => (s r h).bind fun xs h => p x xs h
def eAnd (a b : EvE) : EvE := fun r h => (a r h).bind fun v h => match tru h v with
  | some c => match c with
    | true => b r h
    | false => .ok v h
  | none => .bad 231
def eOr (a b : EvE) : EvE := fun r h => (a r h).bind fun v h => match tru h v with
  | some c => match c with
    | true => .ok v h
    | false => b r h
  | none => .bad 232
def eIte (t : EvT) (a b : EvE) : EvE := fun r h => (t r h).bind fun c h => match c with
  | true => a r h
  | false => b r h
def qNil : EvQ := fun _ h => .ok [] h
def qCons (e : EvE) (t : EvQ) : EvQ := fun r h => (e r h).bind fun x h => (t r h).bind fun ys h => .ok (x :: ys) h
/-- a star's items ahead of others -/
def qStar (s t : EvQ) : EvQ := fun r h => (s r h).bind fun xs h => (t r h).bind fun ys h => .ok (xs ++ ys) h
/-- what stands as a list or tuple -/
def qOf (e : EvE) : EvQ := fun r h => (e r h).bind fun v h => match seqOf h v with
  | some xs => .ok xs h
  | none => .bad 200
/-- what stands as a list -/
def lstOf (h : He) (v : Vl) : Option (List Vl) := match v with
  | .fl xs => some xs
  | .loc p => match h.get p with
    | some (.lst xs) => some xs
    | _ => none
  | _ => none
def qOfL (e : EvE) : EvQ := fun r h => (e r h).bind fun v h => match lstOf h v with
  | some xs => .ok xs h
  | none => .bad 200
/-- kinds of keys: 0 an int, 1 a text, 2 a tuple -/
def kik (v : Vl) : Nat := match v with
  | .int _ => 0
  | .str _ => 1
  | .tup _ => 2
  | _ => 3
/-- ints; or tuples, not empty, whose first things are of one kind -/
def allK (k : Nat) : List Vl → Bool
  | [] => true
  | x :: r => match Nat.beq (kik x) k with
    | true => allK k r
    | false => false
def allF (k : Nat) : List Vl → Bool
  | [] => true
  | x :: r => match x with
    | .tup (f :: _) => match Nat.beq (kik f) k with
      | true => allF k r
      | false => false
    | _ => false
def sortOk (xs : List Vl) : Bool := match xs with
  | [] => true
  | x :: _ => match x with
    | .int _ => allK 0 xs
    | .tup (f :: _) => match allF (kik f) xs with
      | true => xs.all kok
      | false => false
    | _ => false
def qSorted (s : EvQ) : EvQ := fun r h => (s r h).bind fun xs h => match sortOk xs with
  | true => match sortL xs with
    | some ys => .ok ys h
    | none => .bad 80
  | false => .bad 80
/-- ints, ascending, each once -/
def insS (i : Int) : List Int → List Int
  | [] => [i]
  | j :: r => match ibeq i j with
    | true => j :: r
    | false => match iblt i j with
      | true => i :: j :: r
      | false => j :: insS i r
def intsL : List Vl → Option (List Int)
  | [] => some []
  | x :: r => match x with
    | .int i => match intsL r with
      | some ns => some (i :: ns)
      | none => none
    | _ => none
def setI : List Int → List Int
  | [] => []
  | i :: r => insS i (setI r)
/-- sorted(set(a tuple of ints)) -/
def qSortedSet (e : EvE) : EvQ := fun r h => (e r h).bind fun v h => match v with
  | .tup xs => match Nat.blt xs.length 64 with
    | true => match intsL xs with
      | some ns => .ok ((setI ns).map .int) h
      | none => .bad 83
    | false => .bad 83
  | _ => .bad 84
def qPairs (e : EvE) : EvQ := fun r h => (e r h).bind fun v h => match v with
  | .loc q => match h.get q with
    | some (.dic _ es) => .ok (es.map pairV) h
    | _ => .bad 246
  | _ => .bad 247
/-- what list(v) has -/
def keysOf (h : He) (v : Vl) : Option (List Vl) := match v with
  | .loc q => match h.get q with
    | some (.dic _ es) => some (es.map fun p => p.1)
    | some (.lst xs) => some xs
    | _ => none
  | .tup xs => some xs
  | .fl xs => some xs
  | _ => none
def qKeys (e : EvE) : EvQ := fun r h => (e r h).bind fun v h => match keysOf h v with
  | some xs => .ok xs h
  | none => .bad 246
def eCall (f : FnF) (s : EvQ) : EvE := fun r h => (s r h).bind fun vs h => f vs h
def perm (vs : List Vl) : List Nat → Option (List Vl)
  | [] => some []
  | k :: ks => match nth vs k with
    | some v => match perm vs ks with
      | some r => some (v :: r)
      | none => none
    | none => none
def eCallK (f : FnF) (ps : List Nat) (s : EvQ) : EvE := fun r h => (s r h).bind fun vs h => match perm vs ps with
  | some ws => f ws h
  | none => .bad 233
def eMk (c : Nat) (f : FnF) (s : EvQ) : EvE := fun r h => (s r h).bind fun vs h => h.new (.ins c []) fun n h => (f (.loc n :: vs) h).bind fun v h => match v with
  | .non => .ok (.loc n) h
  | _ => .bad 239
/-- a method, by the class of the instance -/
def pick (c : Nat) : List (Nat × FnF) → Option FnF
  | [] => none
  | p :: r => match Nat.beq p.1 c with
    | true => some p.2
    | false => pick c r
def insOf (h : He) (v : Vl) : Option Ob := match v with
  | .loc q => h.get q
  | _ => none
def eMeth (fs : List (Nat × FnF)) (o : EvE) (s : EvQ) : EvE := fun r h => (o r h).bind fun ov h => match insOf h ov with
  | some (.ins c _) => match pick c fs with
    | some f => (s r h).bind fun vs h => f (ov :: vs) h
    | none => .bad 236
  | _ => .bad 238
def fput (f : Nat) (v : Vl) : List (Nat × Vl) → List (Nat × Vl)
  | [] => [(f, v)]
  | p :: r => match Nat.beq p.1 f with
    | true => (f, v) :: r
    | false => p :: fput f v r
def fget (f : Nat) : List (Nat × Vl) → Option Vl
  | [] => none
  | p :: r => match Nat.beq p.1 f with
    | true => some p.2
    | false => fget f r
def eAttr (o : EvE) (f : Nat) : EvE := fun r h => (o r h).bind fun ov h => match insOf h ov with
  | some (.ins _ fs) => match fget f fs with
    | some v => .ok v h
    | none => .bad 240
  | _ => .bad 241
def eExArg (g : Get) : EvE := fun r h => match g r with
  | some (.exc [v]) => .ok v h
  | _ => .bad 243
def eDic : List (EvE × EvE) → Env → He → List (Vl × Vl) → Rs Vl
  | [], _, h, es => newD es h
  | p :: r, ρ, h, es => (p.1 ρ h).bind fun k h => (p.2 ρ h).bind fun v h => match kdk k with
    | true => match dput k v es with
      | some z => eDic r ρ h z
      | none => .bad 201
    | false => .bad 201
def eDic0 : EvE := fun _ h => newD [] h
def eDicD (ps : List (EvE × EvE)) : EvE := fun r h => eDic ps r h []
def eChain (p q : P2) (a b c : EvE) : EvE := fun r h => (a r h).bind fun x h => (b r h).bind fun y h => (p x y h).bind fun w h => match w with
  | .bl k => match k with
    | true => (c r h).bind fun z h => q y z h
    | false => .ok w h
  | _ => .bad 202

def tOfE (a : EvE) : EvT := fun r h => (a r h).bind fun v h => match tru h v with
  | some b => .ok b h
  | none => .bad 202
/-- a comparison's answer -/
def tBl (a : EvE) : EvT := fun r h => (a r h).bind fun v h => match v with
  | .bl b => .ok b h
  | _ => .bad 203
def tIte (t a b : EvT) : EvT := fun r h => (t r h).bind fun c h => match c with
  | true => a r h
  | false => b r h
def tAnd (a b : EvT) : EvT := fun r h => (a r h).bind fun c h => match c with
  | true => b r h
  | false => .ok false h
def tOr (a b : EvT) : EvT := fun r h => (a r h).bind fun c h => match c with
  | true => .ok true h
  | false => b r h
def tNot (a : EvT) : EvT := fun r h => (a r h).bind fun c h => .ok (!c) h
def tYes : EvT := fun _ h => .ok true h

inductive Cu where
  | vals (xs : List Vl) | lst (q i : Nat) | rng (lo : Int) (st : Int) (n : Nat) | keys (q i : Nat) | itms (q i : Nat) | enum (k : Nat) (c : Cu) | zip (a b : Cu)
inductive Nx where
  | item (v : Vl) (c : Cu) | stop | bad
def next (h : He) : Cu → Nx
  | .vals xs => match xs with
    | [] => .stop
    | x :: r => .item x (.vals r)
  | .lst q i => match h.get q with
    | some (.lst xs) => match nth xs i with
      | some x => .item x (.lst q (Nat.succ i))
      | none => .stop
    | _ => .bad
  | .rng lo st n => match n with
    | 0 => .stop
    | m + 1 => iadd lo st fun l2 => .item (.int lo) (.rng l2 st m)
  | .keys q i => match h.get q with
    | some (.dic true es) => match nth es i with
      | some p => .item p.1 (.keys q (Nat.succ i))
      | none => .stop
    | _ => .bad
  | .itms q i => match h.get q with
    | some (.dic true es) => match nth es i with
      | some p => .item (pairV p) (.itms q (Nat.succ i))
      | none => .stop
    | _ => .bad
  | .enum k c => match next h c with
    | .item v c => .item (.tup [.int (.ofNat k), v]) (.enum (Nat.succ k) c)
    | .stop => .stop
    | .bad => .bad
  | .zip a b => match next h a with
    | .item v a => match next h b with
      | .item w b => .item (.tup [v, w]) (.zip a b)
      | .stop => .stop
      | .bad => .bad
    | .stop => match next h b with
      | .item _ _ => .stop
      | .stop => .stop
      | .bad => .bad
    | .bad => .bad
/-- range's length -/
def rngN (lo hi st : Int) : Nat := match st with
  | .ofNat s => match s with
    | 0 => 0
    | s + 1 => match iblt lo hi with
      | true => Nat.succ (Nat.div (Int.toNat (Int.sub (Int.sub hi lo) 1)) (Nat.succ s))
      | false => 0
  | .negSucc s => match iblt hi lo with
    | true => Nat.succ (Nat.div (Int.toNat (Int.sub (Int.sub lo hi) 1)) (Nat.succ s))
    | false => 0
/-- a dict locked (b true), or let go -/
def lock (b : Bool) (q : Nat) (h : He) : Option He := match h.get q with
  | some (.dic c es) => match b with
    | true => match c with
      | true => none
      | false => some (h.set q (.dic true es))
    | false => match c with
      | true => some (h.set q (.dic false es))
      | false => none
  | _ => none
/-- a walk, and the dict that it locks -/
abbrev EvI := Env → He → Rs (Cu × Option Nat)
/-- a list, a tuple -/
def seqCur (h : He) (v : Vl) : Option Cu := match v with
  | .tup xs => some (.vals xs)
  | .fl xs => some (.vals xs)
  | .loc q => match h.get q with
    | some (.lst _) => some (.lst q 0)
    | _ => none
  | _ => none
def isTup (v : Vl) : Bool := match v with
  | .tup _ => true
  | _ => false
/-- over a list or a tuple alone -/
def iSeq (e : EvE) : EvI := fun r h => (e r h).bind fun v h => match seqCur h v with
  | some c => .ok (c, none) h
  | none => .bad 206
def curOf (h : He) (v : Vl) : Rs (Cu × Option Nat) := match v with
  | .tup xs => .ok (.vals xs, none) h
  | .fl xs => .ok (.vals xs, none) h
  | .str s => .ok (.vals (s.map fun c => .str [c]), none) h
  | .loc q => match h.get q with
    | some (.lst _) => .ok (.lst q 0, none) h
    | some (.dic _ _) => match lock true q h with
      | some h => .ok (.keys q 0, some q) h
      | none => .bad 203
    | _ => .bad 203
  | _ => .bad 203
def iOf (e : EvE) : EvI := fun r h => (e r h).bind fun v h => curOf h v
/-- over what is made for the walk alone -/
def iVals (s : EvQ) : EvI := fun r h => (s r h).bind fun xs h => .ok (.vals xs, none) h
def iRng1 (a : EvE) : EvI := fun r h => (a r h).bind fun x h => match x with
  | .int n => match ismall n 62 with
    | true => .ok (.rng 0 1 n.toNat, none) h
    | false => .bad 205
  | _ => .bad 205
def iRng2 (a b : EvE) : EvI := fun r h => (a r h).bind fun x h => (b r h).bind fun y h => match x with
  | .int i => match y with
    | .int j => match ismall i 62 with
      | true => match ismall j 62 with
        | true => .ok (.rng i 1 (Int.sub j i).toNat, none) h
        | false => .bad 205
      | false => .bad 205
    | _ => .bad 205
  | _ => .bad 205
/-- downwards, by one -/
def iRng3 (a b c : EvE) : EvI := fun r h => (a r h).bind fun x h => (b r h).bind fun y h => (c r h).bind fun z h => match x with
  | .int i => match y with
    | .int j => match z with
      | .int k => match ibeq k (-1) with
        | false => .bad 204
        | true => match ismall i 62 with
          | true => match ismall j 62 with
            | true => .ok (.rng i (-1) (Int.sub i j).toNat, none) h
            | false => .bad 205
          | false => .bad 205
      | _ => .bad 205
    | _ => .bad 205
  | _ => .bad 205
/-- over what a list is made of -/
def iEnumQ (s : EvQ) : EvI := fun r h => (s r h).bind fun xs h => .ok (.enum 0 (.vals xs), none) h
def iEnum (e : EvE) : EvI := fun r h => (e r h).bind fun v h => match seqCur h v with
  | some c => .ok (.enum 0 c, none) h
  | none => .bad 206
/-- two of one kind -/
def iZip (a b : EvE) : EvI := fun r h => (a r h).bind fun v h => (b r h).bind fun w h => match seqCur h v with
  | some c => match seqCur h w with
    | some d => match isTup v with
      | true => match isTup w with
        | true => .ok (.zip c d, none) h
        | false => .bad 207
      | false => match isTup w with
        | true => .bad 207
        | false => .ok (.zip c d, none) h
    | none => .bad 207
  | none => .bad 207
def iItems (e : EvE) : EvI := fun r h => (e r h).bind fun v h => match v with
  | .loc q => match lock true q h with
    | some h => .ok (.itms q 0, some q) h
    | none => .bad 209
  | _ => .bad 210
def unlk (o : Option Nat) (h : He) : Option He := match o with
  | none => some h
  | some q => lock false q h

abbrev EvG := Vl → Env → He → Rs Env
def gNm (s : Set) : EvG := fun v r h => .ok (s (some v) r) h
/-- no exception in it -/
def Rs.bindN {α β : Type} (x : Rs α) (k : α → He → Rs β) : Rs β := match x with
  | .ok a h => k a h
  | .ex _ _ _ => .bad 224
  | .bad n => .bad n
def gEach : List EvG → List Vl → Env → He → Rs Env
  | [], vs, r, h => match vs with
    | [] => .ok r h
    | _ :: _ => .bad 220
  | g :: gs, vs, r, h => match vs with
    | [] => .bad 220
    | v :: vs => (g v r h).bindN fun r h => gEach gs vs r h
def gTup (gs : List EvG) : EvG := fun v r h => match seqOf h v with
  | some vs => gEach gs vs r h
  | none => .bad 212
def setIx (o i v : Vl) (h : He) (k : He → Rs Env) : Rs Env := match o with
  | .loc q => match h.get q with
    | some o => match o with
      | .lst xs => match i with
        | .int i => match ixOf i xs.length with
          | some j => k (h.set q (.lst (put xs j v)))
          | none => .bad 213
        | _ => .bad 214
      | .dic lk es => match lk with
        | true => .bad 215
        | false => match kdk i with
          | true => match few es with
            | true => match dput i v es with
              | some z => k (h.set q (.dic false z))
              | none => .bad 215
            | false => .bad 215
          | false => .bad 215
      | _ => .bad 216
    | none => .bad 216
  | _ => .bad 217
def gSub (o i : EvE) : EvG := fun v r h => (o r h).bindN fun ov h => (i r h).bindN fun iv h => setIx ov iv v h fun h => .ok r h
/-- fo: which class may have which field -/
def gAttr (fo : Nat → Nat → Bool) (o : EvE) (f : Nat) : EvG := fun v r h => (o r h).bindN fun ov h => match ov with
  | .loc q => match h.get q with
    | some (.ins c fs) => match fo c f with
      | true => match Nat.ble fs.length 100 with
        | true => .ok r (h.set q (.ins c (fput f v fs)))
        | false => .bad 218
      | false => .bad 218
    | _ => .bad 218
  | _ => .bad 219

abbrev EvC := Env → He → List Vl → Rs (List Vl)
/-- not too long yet -/
def cPut (v : Vl) (acc : List Vl) (h : He) : Rs (List Vl) := .ok (v :: acc) h
def cElt (e : EvE) : EvC := fun r h acc => (e r h).bindN fun v h => cPut v acc h
def cElt2 (k e : EvE) : EvC := fun r h acc => (k r h).bindN fun k h => (e r h).bindN fun v h => .ok (.tup [k, v] :: acc) h
def cLoop {α : Type} (g : EvG) (t : EvT) (b : Env → He → α → Rs α) (r : Env) : Nat → Cu → He → α → Rs α
  | 0, _, _, _ => .bad 221
  | n + 1, c, h, acc => match next h c with
    | .stop => .ok acc h
    | .bad => .bad 222
    | .item v c => (g v r h).bindN fun r' h => (t r' h).bindN fun k h => match k with
      | true => (b r' h acc).bindN fun acc h => cLoop g t b r n c h acc
      | false => cLoop g t b r n c h acc
def wipeL : List Set → Env → Env
  | [], r => r
  | s :: ss, r => s none (wipeL ss r)
/-- .. where it is not known how many there are -/
def cEltF (e : EvE) : EvC := fun r h acc => (e r h).bindN fun v h => match few acc with
  | true => .ok (v :: acc) h
  | false => .bad 228
/-- the second walk, over a list or a tuple; ws: its target's names -/
def cFor {α : Type} (ws : List Set) (i : EvI) (g : EvG) (t : EvT) (b : Env → He → α → Rs α) : Env → He → α → Rs α := fun r h acc => (i r h).bindN fun p h => cLoop g t b (wipeL ws r) 10000 p.1 h acc
/-- the entries of a dict that is made -/
def dPut (k v : Vl) (acc : List (Vl × Vl)) (h : He) : Rs (List (Vl × Vl)) := match kdk k with
  | true => match few acc with
    | true => match dput k v acc with
      | some z => .ok z h
      | none => .bad 227
    | false => .bad 227
  | false => .bad 227
def dElt (k e : EvE) : Env → He → List (Vl × Vl) → Rs (List (Vl × Vl)) := fun r h acc => (k r h).bindN fun k h => (e r h).bindN fun v h => dPut k v acc h
/-- i: the first walk, in the names as they stand; ws: the comprehension's own names -/
def qComp (ws : List Set) (i : EvI) (g : EvG) (t : EvT) (b : EvC) : EvQ := fun r h => (i r h).bind fun p h => (cLoop g t b (wipeL ws r) 10000 p.1 h []).bindN fun acc h => match unlk p.2 h with
  | some h => .ok acc.reverse h
  | none => .bad 223

def eDComp (ws : List Set) (i : EvI) (g : EvG) (t : EvT) (b : Env → He → List (Vl × Vl) → Rs (List (Vl × Vl))) : EvE := fun r h => (i r h).bind fun p h => (cLoop g t b (wipeL ws r) 10000 p.1 h []).bindN fun acc h => match unlk p.2 h with
  | some h => newD acc h
  | none => .bad 223

inductive Fl where
  | nx (r : Env) | rt (v : Vl) | bk (r : Env) | ct (r : Env)
inductive Rst where
  | ok (f : Fl) (h : He) | ex (c : Nat) (v : List Vl) (r : Env) (h : He) | bad (k : Nat)
abbrev EvS := Env → He → Rst
def Rs.toS {α : Type} (x : Rs α) (r : Env) (k : α → He → Rst) : Rst := match x with
  | .ok a h => k a h
  | .ex c v h => .ex c v r h
  | .bad n => .bad n
def Rst.nxt (x : Rst) (k : Env → He → Rst) : Rst := match x with
  | .ok f h => match f with
    | .nx r => k r h
    | _ => .ok f h
  | .ex c v r h => .ex c v r h
  | .bad n => .bad n
def sSeq : List EvS → EvS
  | [] => fun r h => .ok (.nx r) h
  | s :: ss => fun r h => (s r h).nxt fun r h => sSeq ss r h
def Rs.toN {α : Type} (x : Rs α) (k : α → He → Rst) : Rst := match x with
  | .ok a h => k a h
  | .ex _ _ _ => .bad 225
  | .bad n => .bad n
def sAsg (g : EvG) (e : EvE) : EvS := fun r h => (e r h).toS r fun v h => (g v r h).toN fun r h => .ok (.nx r) h
def parL : List Set → List Vl → Env → Option Env
  | [], vs, r => match vs with
    | [] => some r
    | _ :: _ => none
  | s :: ss, vs, r => match vs with
    | [] => none
    | v :: vs => parL ss vs (s (some v) r)
def sPar (ss : List Set) (q : EvQ) : EvS := fun r h => (q r h).toS r fun vs h => match parL ss vs r with
  | some r => .ok (.nx r) h
  | none => .bad 252
def sEx (e : EvE) : EvS := fun r h => (e r h).toS r fun _ h => .ok (.nx r) h
def sRet (e : EvE) : EvS := fun r h => (e r h).toS r fun v h => .ok (.rt v) h
def sRetN : EvS := fun r h => .ok (.rt .non) h
def sIf (t : EvT) (a b : EvS) : EvS := fun r h => (t r h).toS r fun c h => match c with
  | true => a r h
  | false => b r h
def Rst.loop (x : Rst) (k : Env → He → Rst) : Rst := match x with
  | .ok f h => match f with
    | .nx r => k r h
    | .ct r => k r h
    | .bk r => .ok (.nx r) h
    | .rt v => .ok (.rt v) h
  | .ex c v r h => .ex c v r h
  | .bad n => .bad n
def whl (t : EvT) (b : EvS) : Nat → EvS
  | 0 => fun _ _ => .bad 249
  | n + 1 => fun r h => (t r h).toS r fun c h => match c with
    | true => (b r h).loop fun r h => whl t b n r h
    | false => .ok (.nx r) h
def sWhl (t : EvT) (b : EvS) : EvS := whl t b 100000
def forL (g : EvG) (b : EvS) : Nat → Cu → Env → He → Rst
  | 0, _, _, _ => .bad 250
  | n + 1, c, r, h => match next h c with
    | .stop => .ok (.nx r) h
    | .bad => .bad 251
    | .item v c => (g v r h).toN fun r h => (b r h).loop fun r h => forL g b n c r h
def Rst.unlk (x : Rst) (o : Option Nat) : Rst := match x with
  | .ok f h => match FP.unlk o h with
    | some h => .ok f h
    | none => .bad 253
  | .ex c v r h => .ex c v r h
  | .bad n => .bad n
def sFor (i : EvI) (g : EvG) (b : EvS) : EvS := fun r h => (i r h).toS r fun p h => (forL g b 100000 p.1 r h).unlk p.2
def sBrk : EvS := fun r h => .ok (.bk r) h
def sCnt : EvS := fun r h => .ok (.ct r) h
def sPass : EvS := fun r h => .ok (.nx r) h
def sRaise (c : Nat) : EvS := fun r h => .ex c [] r h
def sRaise1 (c : Nat) (e : EvE) : EvS := fun r h => (e r h).toS r fun v h => .ex c [v] r h
/-- no exception in it -/
def Rst.noX (x : Rst) : Rst := match x with
  | .ok f h => .ok f h
  | .ex _ _ _ _ => .bad 226
  | .bad n => .bad n
def hnd (c : Nat) (v : List Vl) (r : Env) (h : He) : List (Nat × Option Set × EvS) → Rst
  | [] => .ex c v r h
  | p :: hs => match Nat.beq c p.1 with
    | true => match p.2.1 with
      | none => (p.2.2 r h).noX
      | some s => (p.2.2 (s (some (.exc v)) r) h).nxt fun r h => .ok (.nx (s none r)) h
    | false => hnd c v r h hs
def sTry (b : EvS) (hs : List (Nat × Option Set × EvS)) : EvS := fun r h => match b r h with
  | .ok f h => .ok f h
  | .ex c v r h => hnd c v r h hs
  | .bad n => .bad n

def endB (x : Rst) : Rs Vl := match x with
  | .ok f h => match f with
    | .rt v => .ok v h
    | .nx _ => .ok .non h
    | _ => .bad 260
  | .ex c v _ h => .ex c v h
  | .bad k => .bad k
/-- the arguments to the first slots -/
def bindL : List Set → List Vl → Env → Option Env
  | [], vs, r => match vs with
    | [] => some r
    | _ :: _ => none
  | s :: ss, vs, r => match vs with
    | [] => none
    | v :: vs => bindL ss vs (s (some v) r)
def fnI (ps : List Set) (b : EvS) : FnF := fun vs h => match bindL ps vs env0 with
  | some r => endB (b r h)
  | none => .bad 261
def noLoc : Nat → Vl → Bool
  | 0, _ => false
  | n + 1, v => match v with
    | .loc _ => false
    | .tup xs => xs.all (noLoc n)
    | .exc _ => false
    | .fl _ => false
    | _ => true
def pur (v : Vl) : Bool := noLoc 60 v
/-- a def of plain values alone: in a heap of its own -/
def outP (x : Rs Vl) (h : He) : Rs Vl := match x with
  | .ok v _ => match pur v with
    | true => .ok v h
    | false => .bad 265
  | .ex c v _ => match v.all pur with
    | true => .ex c v h
    | false => .bad 266
  | .bad k => .bad k
def fnP (ps : List Set) (b : EvS) : FnF := fun vs h => match vs.all pur with
  | true => outP (fnI ps b vs .nil) h
  | false => .bad 264
def fnBad : FnF := fun _ _ => .bad 262
def tabBad : Tab := rep7 (rep7 (rep7 fnBad))
def tabN (f : Tab → Tab) : Nat → Tab
  | 0 => tabBad
  | n + 1 => f (tabN f n)
end FP
end
section
namespace FP
open PySem PySem.Spec PyProof.Rows L2

def strOf (s : List Nat) : Str := ⟨s.toArray⟩
theorem strOf_inj {s t : List Nat} (h : strOf s = strOf t) : s = t := by
  have := congrArg (fun x : Str => x.cps.toList) h
  simpa [strOf] using this

/-- a list that nothing changes -/
def SqF (K : PySem.W.Frag) (H : Hp) (a : Addr) (vs : List V) : Prop :=
  (∃ o, H a = some (.frz o (.lst vs))) ∨
    ∃ (o : Obj) (its : Array Value) (n : Nat), K.lookup a = some o ∧ o.cls = .type "list" ∧ o.dict = none ∧ o.data = .seq its n ∧ its.size ≤ sizeLine ∧ Vals vs its.toList
theorem SqF.l {K : PySem.W.Frag} {H : Hp} {a : Addr} {vs : List V} (h : SqF K H a vs) : SqL K H a vs := by
  rcases h with ⟨o, h⟩ | h
  · exact .inl (.inr ⟨o, h⟩)
  · exact .inr h

/-- a tuple whose object is told, and has no dict -/
def SqD (K : PySem.W.Frag) (H : Hp) (a : Addr) (vs : List V) : Prop :=
  (∃ o : Obj, H a = some (.frz o (.tup vs)) ∧ o.dict = none) ∨
    ∃ (o : Obj) (its : Array Value) (n : Nat), K.lookup a = some o ∧ o.cls = .type "tuple" ∧ o.dict = none ∧ o.data = .seq its n ∧ its.size ≤ sizeLine ∧ Vals vs its.toList
theorem SqD.t {K : PySem.W.Frag} {H : Hp} {a : Addr} {vs : List V} (h : SqD K H a vs) : SqT K H a vs := by
  rcases h with ⟨o, h, _⟩ | ⟨o, its, n, h1, h2, _, h3⟩
  · exact .inl (.inr ⟨o, h⟩)
  · exact .inr ⟨o, its, n, h1, h2, h3⟩
/-- a value beside one of the layer; φ: where the heap's things stand -/
inductive RV (K : PySem.W.Frag) (φ : List Addr) (H : Hp) : Vl → V → Prop where
  | non : RV K φ H .non .non
  | bl (b : Bool) : RV K φ H (.bl b) (.bl b)
  | int (i : Int) : RV K φ H (.int i) (.int i)
  | str (s : List Nat) : RV K φ H (.str s) (.str (strOf s))
  | tup {xs : List Vl} {a : Addr} {vs : List V} (h : SqD K H a vs) (hl : xs.length = vs.length) (hx : ∀ (i : Nat) (x : Vl) (v : V), xs[i]? = some x → vs[i]? = some v → RV K φ H x v) : RV K φ H (.tup xs) (.ref a)
  | fl {xs : List Vl} {a : Addr} {vs : List V} (h : SqF K H a vs) (hl : xs.length = vs.length) (hx : ∀ (i : Nat) (x : Vl) (v : V), xs[i]? = some x → vs[i]? = some v → RV K φ H x v) : RV K φ H (.fl xs) (.ref a)
  | loc {n : Nat} {a : Addr} (h : φ[n]? = some a) : RV K φ H (.loc n) (.ref a)
/-- lists of such -/
def RVs (K : PySem.W.Frag) (φ : List Addr) (H : Hp) (xs : List Vl) (vs : List V) : Prop :=
  xs.length = vs.length ∧ ∀ (i : Nat) (x : Vl) (v : V), xs[i]? = some x → vs[i]? = some v → RV K φ H x v

section
variable {K : PySem.W.Frag} {φ φ' : List Addr} {H H' : Hp}
theorem RVs.nil : RVs K φ H [] [] := ⟨rfl, fun i x v h => by simp at h⟩
theorem RVs.cons {x : Vl} {v : V} {xs : List Vl} {vs : List V} (h : RV K φ H x v) (t : RVs K φ H xs vs) : RVs K φ H (x :: xs) (v :: vs) := by
  refine ⟨by simp [t.1], fun i y w hy hw => ?_⟩
  cases i with
  | zero => simp at hy hw; subst hy; subst hw; exact h
  | succ i => exact t.2 i y w (by simpa using hy) (by simpa using hw)
theorem RVs.head {x : Vl} {v : V} {xs : List Vl} {vs : List V} (t : RVs K φ H (x :: xs) (v :: vs)) : RV K φ H x v := t.2 0 x v rfl rfl
theorem RVs.tail {x : Vl} {v : V} {xs : List Vl} {vs : List V} (t : RVs K φ H (x :: xs) (v :: vs)) : RVs K φ H xs vs :=
  ⟨by simpa using t.1, fun i y w hy hw => t.2 (i + 1) y w (by simpa using hy) (by simpa using hw)⟩
theorem RVs.inv_cons {x : Vl} {xs : List Vl} {vs : List V} (t : RVs K φ H (x :: xs) vs) : ∃ v ws, vs = v :: ws ∧ RV K φ H x v ∧ RVs K φ H xs ws := by
  cases vs with
  | nil => have := t.1; simp at this
  | cons v ws => exact ⟨v, ws, rfl, t.head, t.tail⟩
theorem RVs.inv_nil {vs : List V} (t : RVs K φ H [] vs) : vs = [] := by
  have := t.1
  cases vs with
  | nil => rfl
  | cons => simp at this
theorem RVs.append {xs ys : List Vl} {vs ws : List V} (h : RVs K φ H xs vs) (t : RVs K φ H ys ws) : RVs K φ H (xs ++ ys) (vs ++ ws) := by
  refine ⟨by simp [h.1, t.1], fun i y w hy hw => ?_⟩
  by_cases hi : i < xs.length
  · rw [List.getElem?_append_left hi] at hy
    rw [List.getElem?_append_left (by rw [← h.1]; exact hi)] at hw
    exact h.2 i y w hy hw
  · rw [List.getElem?_append_right (by omega)] at hy
    rw [List.getElem?_append_right (by rw [← h.1]; omega), ← h.1] at hw
    exact t.2 _ y w hy hw
theorem RVs.get {xs : List Vl} {vs : List V} (h : RVs K φ H xs vs) {i : Nat} {x : Vl} (hx : xs[i]? = some x) : ∃ v, vs[i]? = some v ∧ RV K φ H x v := by
  have hi : i < xs.length := (List.getElem?_eq_some_iff.mp hx).1
  have hv : vs[i]? = some (vs[i]'(by rw [← h.1]; exact hi)) := List.getElem?_eq_getElem _
  exact ⟨_, hv, h.2 i x _ hx hv⟩
theorem RVs.getR {xs : List Vl} {vs : List V} (h : RVs K φ H xs vs) {i : Nat} {v : V} (hv : vs[i]? = some v) : ∃ x, xs[i]? = some x ∧ RV K φ H x v := by
  have hi : i < vs.length := (List.getElem?_eq_some_iff.mp hv).1
  have hx : xs[i]? = some (xs[i]'(by rw [h.1]; exact hi)) := List.getElem?_eq_getElem _
  exact ⟨_, hx, h.2 i _ v hx hv⟩
theorem RVs.take {xs : List Vl} {vs : List V} (h : RVs K φ H xs vs) (n : Nat) : RVs K φ H (xs.take n) (vs.take n) := by
  refine ⟨by simp [h.1], fun i x v hx hv => ?_⟩
  by_cases hi : i < n
  · rw [List.getElem?_take_of_lt hi] at hx hv
    exact h.2 i x v hx hv
  · rw [List.getElem?_eq_none (by simp; omega)] at hx; cases hx
theorem RVs.drop {xs : List Vl} {vs : List V} (h : RVs K φ H xs vs) (n : Nat) : RVs K φ H (xs.drop n) (vs.drop n) := by
  refine ⟨by simp [h.1], fun i x v hx hv => ?_⟩
  rw [List.getElem?_drop] at hx hv
  exact h.2 _ x v hx hv
theorem RVs.reverse {xs : List Vl} {vs : List V} (h : RVs K φ H xs vs) : RVs K φ H xs.reverse vs.reverse := by
  refine ⟨by simp [h.1], fun i x v hx hv => ?_⟩
  have hi : i < xs.length := by have := (List.getElem?_eq_some_iff.mp hx).1; simpa using this
  rw [List.getElem?_reverse hi] at hx
  rw [List.getElem?_reverse (by rw [← h.1]; exact hi), ← h.1] at hv
  exact h.2 _ x v hx hv
end

/-- what stands at a heap's place: no tuple, no list that nothing changes -/
def NTup : HO → Prop
  | .tup _ => False
  | .frz _ (.tup _) => False
  | .frz _ (.lst _) => False
  | _ => True
/-- the heap grew, its things may have changed; all else stands -/
structure Evo (φ : List Addr) (H : Hp) (φ' : List Addr) (H' : Hp) : Prop where
  pre : φ <+: φ'
  old : ∀ a o, H a = some o → a ∉ φ → H' a = some o
  new : ∀ a, a ∈ φ' → a ∉ φ → H a = none
  frz : ∀ a o u, H a = some (.frz o u) → H' a = some (.frz o u)
def Trk (φ : List Addr) (H : Hp) : Prop := ∀ a, a ∈ φ → ∃ o, H a = some o ∧ NTup o
theorem Evo.refl {φ : List Addr} {H : Hp} : Evo φ H φ H := ⟨List.prefix_refl φ, fun _ _ h _ => h, fun _ h n => absurd h n, fun _ _ _ h => h⟩
theorem Evo.trans {φ φ1 φ2 : List Addr} {H H1 H2 : Hp} (x : Evo φ H φ1 H1) (y : Evo φ1 H1 φ2 H2) : Evo φ H φ2 H2 := by
  refine ⟨x.pre.trans y.pre, fun a o h n => ?_, fun a h n => ?_, fun a o u h => y.frz a o u (x.frz a o u h)⟩
  · refine y.old a o (x.old a o h n) fun m => ?_
    rw [x.new a m n] at h; cases h
  · by_cases m : a ∈ φ1
    · exact x.new a m n
    · cases e : H a with
      | none => rfl
      | some o =>
        have h1 := x.old a o e n
        rw [y.new a h m] at h1; cases h1
theorem Evo.at {φ φ' : List Addr} {H H' : Hp} (x : Evo φ H φ' H') {n : Nat} {a : Addr} (h : φ[n]? = some a) : φ'[n]? = some a := by
  obtain ⟨t, rfl⟩ := x.pre
  rw [List.getElem?_append_left (List.getElem?_eq_some_iff.mp h).1]; exact h
section
variable {K : PySem.W.Frag} {φ φ' : List Addr} {H H' : Hp}
theorem SqT.evo {a : Addr} {vs : List V} (x : Evo φ H φ' H') (t : Trk φ H) (h : SqT K H a vs) : SqT K H' a vs := by
  rcases h with h | h
  · refine .inl ?_
    rcases h with h | ⟨o, h⟩
    · refine .inl (x.old a _ h fun m => ?_)
      obtain ⟨u, e, n⟩ := t a m
      rw [h] at e; cases e; exact n
    · refine .inr ⟨o, x.old a _ h fun m => ?_⟩
      obtain ⟨u, e, n⟩ := t a m
      rw [h] at e; cases e; exact n
  · exact .inr h
theorem SqD.evo {a : Addr} {vs : List V} (x : Evo φ H φ' H') (t : Trk φ H) (h : SqD K H a vs) : SqD K H' a vs := by
  rcases h with ⟨o, h, d⟩ | h
  · refine .inl ⟨o, x.old a _ h fun m => ?_, d⟩
    obtain ⟨u, e, n⟩ := t a m
    rw [h] at e; cases e; exact n
  · exact .inr h
theorem SqF.evo {a : Addr} {vs : List V} (x : Evo φ H φ' H') (t : Trk φ H) (h : SqF K H a vs) : SqF K H' a vs := by
  rcases h with ⟨o, h⟩ | h
  · refine .inl ⟨o, x.old a _ h fun m => ?_⟩
    obtain ⟨u, e, n⟩ := t a m
    rw [h] at e; cases e; exact n
  · exact .inr h
theorem RV.evo {x : Vl} {v : V} (e : Evo φ H φ' H') (t : Trk φ H) (h : RV K φ H x v) : RV K φ' H' x v := by
  induction h with
  | non => exact .non
  | bl b => exact .bl b
  | int i => exact .int i
  | str s => exact .str s
  | tup h hl _ ih => exact .tup (SqD.evo e t h) hl ih
  | fl h hl _ ih => exact .fl (SqF.evo e t h) hl ih
  | loc h => exact .loc (e.at h)
/-- what a value leans on -/
def Kept (H H' : Hp) : Prop := ∀ a o, H a = some o → ¬ NTup o → H' a = some o
theorem SqD.kept {a : Addr} {vs : List V} (k : Kept H H') (h : SqD K H a vs) : SqD K H' a vs := by
  rcases h with ⟨o, h, d⟩ | h
  · exact .inl ⟨o, k a _ h id, d⟩
  · exact .inr h
theorem SqF.kept {a : Addr} {vs : List V} (k : Kept H H') (h : SqF K H a vs) : SqF K H' a vs := by
  rcases h with ⟨o, h⟩ | h
  · exact .inl ⟨o, k a _ h id⟩
  · exact .inr h
theorem RV.kept {x : Vl} {v : V} (k : Kept H H') (h : RV K φ H x v) : RV K φ H' x v := by
  induction h with
  | non => exact .non
  | bl b => exact .bl b
  | int i => exact .int i
  | str s => exact .str s
  | tup h hl _ ih => exact .tup (h.kept k) hl ih
  | fl h hl _ ih => exact .fl (h.kept k) hl ih
  | loc h => exact .loc h
theorem RVs.kept {xs : List Vl} {vs : List V} (k : Kept H H') (h : RVs K φ H xs vs) : RVs K φ H' xs vs :=
  ⟨h.1, fun i x v h1 h2 => (h.2 i x v h1 h2).kept k⟩
theorem RVs.evo {xs : List Vl} {vs : List V} (e : Evo φ H φ' H') (t : Trk φ H) (h : RVs K φ H xs vs) : RVs K φ' H' xs vs :=
  ⟨h.1, fun i x v h1 h2 => (h.2 i x v h1 h2).evo e t⟩
end

mutual
/-- a key, as the library tells it -/
def nk : Vl → NestedKey
  | .int i => .num i
  | .str s => .text (strOf s)
  | .tup xs => .tup (nks xs)
  | .non => .none
  | .bl _ => .none
  | .loc _ => .none
  | .exc _ => .none
  | .fl _ => .none
def nks : List Vl → List NestedKey
  | [] => []
  | x :: xs => nk x :: nks xs
end
/-- what a law's program brings: attributes' names, classes, exceptions -/
structure Gd where
  P : Program
  w : World
  K : PySem.W.Frag
  attrs : List Str
  clss : List Addr
  excs : List Addr
  fld : Nat → Str
  attrs_nd : attrs.Nodup
  cls_ok : ∀ (c : Nat) (C : Addr), clss[c]? = some C → Cls K C
section
variable (G : Gd) (φ : List Addr) (H : Hp)
def RFs (C : Addr) (fs : List (Nat × Vl)) (ws : List (Str × V)) : Prop :=
  fs.length = ws.length ∧ ∀ (i : Nat) (p : Nat × Vl) (q : Str × V), fs[i]? = some p → ws[i]? = some q → G.attrs[p.1]? = some q.1 ∧ NoAttr G.K C q.1 ∧ RV G.K φ H p.2 q.2
/-- a dict: its object, entry by entry -/
def DN (a : Addr) (xs : List (Vl × Value × Value)) : Heap → Prop := fun h =>
  ∃ o es ep, h.get? a = some o ∧ o.ExactDict ∧ o.data = .dict es ep ∧ es.toList = xs.map fun x => ⟨(nk x.1).hash G.w, x.2.1, x.2.2⟩
def RDT (es : List (Vl × Vl)) (xs : List (Vl × Value × Value)) : Prop :=
  es.length = xs.length ∧ es.length ≤ sizeLine ∧ (xs.map (·.1)).Nodup ∧ ∀ (i : Nat) (p : Vl × Vl) (q : Vl × Value × Value), es[i]? = some p → xs[i]? = some q →
    p.1 = q.1 ∧ kdk p.1 = true ∧ (∃ v, RV G.K φ H p.1 v ∧ RelV v q.2.1) ∧ ∃ v, RV G.K φ H p.2 v ∧ RelV v q.2.2
def RD (a : Addr) (es : List (Vl × Vl)) (u : HO) : Prop :=
  (a == sysModules) = false ∧ ∃ xs, u = .ext (DN G a xs) ∧ RDT G φ H es xs
def RO (a : Addr) : Ob → Prop
  | .lst xs => ∃ vs, H a = some (.lst vs) ∧ RVs G.K φ H xs vs
  | .dic lk es => ∃ u, (match lk with | true => ∃ o, H a = some (.frz o u) | false => H a = some u) ∧ RD G φ H a es u
  | .ins c fs => ∃ C dx ws, G.clss[c]? = some C ∧ H a = some (.ins C dx ws) ∧ RFs G φ H C fs ws
end
structure Sim (G : Gd) (φ : List Addr) (η : He) (H : Hp) : Prop where
  len : φ.length = η.n
  nd : φ.Nodup
  ob : ∀ (i : Nat) (a : Addr), φ[i]? = some a → ∃ o, η.get i = some o ∧ RO G φ H a o
theorem RO.ntup {G : Gd} {φ : List Addr} {H : Hp} {a : Addr} {o : Ob} (h : RO G φ H a o) : ∃ u, H a = some u ∧ NTup u := by
  cases o with
  | lst xs => obtain ⟨vs, h, _⟩ := h; exact ⟨_, h, trivial⟩
  | ins c fs => obtain ⟨_, _, _, _, h, _⟩ := h; exact ⟨_, h, trivial⟩
  | dic lk es =>
    obtain ⟨u, h, r⟩ := h
    cases lk with
    | false => exact ⟨u, h, by obtain ⟨_, k, rfl, _⟩ := r; trivial⟩
    | true => obtain ⟨o, h⟩ := h; exact ⟨_, h, by obtain ⟨_, k, rfl, _⟩ := r; trivial⟩
theorem Sim.trk {G : Gd} {φ : List Addr} {η : He} {H : Hp} (S : Sim G φ η H) : Trk φ H := fun a m => by
  obtain ⟨i, hi⟩ := List.getElem?_of_mem m
  obtain ⟨o, _, r⟩ := S.ob i a hi
  exact r.ntup

/-- the names -/
structure EnvR (G : Gd) (n : Nat) (φ : List Addr) (H : Hp) (r : Env) (σ : L2.St) : Prop where
  len : σ.length = n
  at' : ∀ (i : Nat) (x : Vl), gOf i r = some x → i < 49 → ∃ v, σ[i]? = some (some v) ∧ RV G.K φ H x v
theorem EnvR.evo {G : Gd} {n : Nat} {φ φ' : List Addr} {H H' : Hp} {r : Env} {σ : L2.St} (E : EnvR G n φ H r σ) (e : Evo φ H φ' H') (t : Trk φ H) : EnvR G n φ' H' r σ :=
  ⟨E.len, fun i x h hi => let ⟨v, h1, h2⟩ := E.at' i x h hi; ⟨v, h1, h2.evo e t⟩⟩

/-- an exception: its class, its own dict -/
def ExR (G : Gd) (φ : List Addr) (H : Hp) (c : Nat) (as : List Vl) (cls : Value) (d : Option Addr) : Prop :=
  (∃ C, G.excs[c]? = some C ∧ cls = .ref C) ∧ match as with
    | [] => True
    | x :: _ => ∃ dx v, d = some dx ∧ H dx = some (.xd [(G.fld c, v)]) ∧ RV G.K φ H x v
def Post {α β : Type} (G : Gd) (R : List Addr → Hp → α → β → Prop) (W : Value → Option Addr → Hp → Prop) (φ : List Addr) (H : Hp) (x : Rs α) (Q : β → Hp → Prop) : Prop := match x with
  | .ok a η' => ∀ φ' H' b, Evo φ H φ' H' → Sim G φ' η' H' → R φ' H' a b → Q b H'
  | .ex c as η' => ∀ φ' H' cls d, Evo φ H φ' H' → Sim G φ' η' H' → ExR G φ' H' c as cls d → W cls d H'
  | .bad _ => False
theorem Post.bind {α β γ δ : Type} {G : Gd} {R : List Addr → Hp → α → β → Prop} {R' : List Addr → Hp → γ → δ → Prop} {W : Value → Option Addr → Hp → Prop} {φ : List Addr} {H : Hp} {x : Rs α} {k : α → He → Rs γ} {Q : δ → Hp → Prop}
    (h : Post G R' W φ H (x.bind k) Q) : Post G R W φ H x fun b H1 => ∃ φ1 η1 a, Evo φ H φ1 H1 ∧ Sim G φ1 η1 H1 ∧ R φ1 H1 a b ∧ Post G R' W φ1 H1 (k a η1) Q := by
  cases x with
  | bad n => exact h
  | ex c v η => exact h
  | ok a η =>
    intro φ1 H1 b e S r
    refine ⟨φ1, η, a, e, S, r, ?_⟩
    have h' : Post G R' W φ H (k a η) Q := h
    cases hk : k a η with
    | bad n => rw [hk] at h'; exact h'
    | ex c v η2 => rw [hk] at h'; exact fun φ2 H2 cls d e2 => h' φ2 H2 cls d (e.trans e2)
    | ok y η2 => rw [hk] at h'; exact fun φ2 H2 z e2 => h' φ2 H2 z (e.trans e2)
theorem Post.imp {α β : Type} {G : Gd} {R : List Addr → Hp → α → β → Prop} {W : Value → Option Addr → Hp → Prop} {φ : List Addr} {H : Hp} {x : Rs α} {Q Q' : β → Hp → Prop}
    (h : Post G R W φ H x Q) (i : ∀ b H', Q b H' → Q' b H') : Post G R W φ H x Q' := by
  cases x with
  | bad n => exact h
  | ex c v η => exact h
  | ok a η => exact fun φ1 H1 b e S r => i _ _ (h φ1 H1 b e S r)
/-- taken from an earlier heap on -/
theorem Post.from {α β : Type} {G : Gd} {R : List Addr → Hp → α → β → Prop} {W : Value → Option Addr → Hp → Prop} {φ φ1 : List Addr} {H H1 : Hp} {x : Rs α} {Q : β → Hp → Prop}
    (e : Evo φ H φ1 H1) (h : Post G R W φ H x Q) : Post G R W φ1 H1 x Q := by
  cases x with
  | bad n => exact h
  | ex c v η => exact fun φ2 H2 cls d e2 => h φ2 H2 cls d (e.trans e2)
  | ok a η => exact fun φ2 H2 b e2 => h φ2 H2 b (e.trans e2)
end FP
end
section
namespace FP
open PySem PySem.Spec PyProof.Rows L2

theorem peWeak {X : Cx} {e : Expr} {t t' : TE} (h : PE X e t) (i : ∀ σ H Q, t' σ H Q → t σ H Q) : PE X e t' := ⟨fun pins s σ H Q I q => h.run pins s σ H Q I (i σ H Q q)⟩
theorem ptWeak {X : Cx} {e : Expr} {t t' : TT} (h : PT X e t) (i : ∀ σ H Q, t' σ H Q → t σ H Q) : PT X e t' := ⟨fun pins s σ H Q I q => h.run pins s σ H Q I (i σ H Q q)⟩
theorem pwWeak {X : Cx} {e : Expr} {t t' : TT} (h : PW X e t) (i : ∀ σ H Q, t' σ H Q → t σ H Q) : PW X e t' := ⟨fun wh pins s σ H Q I q => h.run wh pins s σ H Q I (i σ H Q q)⟩
theorem paWeak {X : Cx} {e : List Expr} {t t' : TA} (h : PA X e t) (i : ∀ σ H Q, t' σ H Q → t σ H Q) : PA X e t' := ⟨fun pos pins s σ H Q I q => h.run pos pins s σ H Q I (i σ H Q q)⟩

abbrev RVl (G : Gd) : List Addr → Hp → Vl → V → Prop := fun φ H x v => RV G.K φ H x v
abbrev RBl : List Addr → Hp → Bool → Bool → Prop := fun _ _ a b => a = b
/-- a list or tuple that may be read -/
def RQ (G : Gd) : List Addr → Hp → List Vl → V → Prop := fun φ H xs v => ∃ a vs, v = .ref a ∧ (SqL G.K H a vs ∨ SqD G.K H a vs) ∧ RVs G.K φ H xs vs
/-- a new list, where H0 stood -/
def RL (G : Gd) (H0 : Hp) : List Addr → Hp → List Vl → V → Prop := fun φ H xs v => ∃ a vs, v = .ref a ∧ H0 a = none ∧ H a = some (.lst vs) ∧ a ∉ φ ∧ RVs G.K φ H xs vs
abbrev RA (G : Gd) : List Addr → Hp → List Vl → List V → Prop := fun φ H xs vs => RVs G.K φ H xs vs
/-- so many -/
def RAn (G : Gd) (k : Nat) : List Addr → Hp → List Vl → List V → Prop := fun φ H xs vs => RVs G.K φ H xs vs ∧ xs.length = k

/-- a reading: from some state of the evaluator -/
def rd {α β : Type} (G : Gd) (n : Nat) (R : List Addr → Hp → α → β → Prop) (W : WX) (f : Env → He → Rs α) : L2.St → Hp → (β → Hp → Prop) → Prop := fun σ H Q =>
  ∃ φ η r, Sim G φ η H ∧ EnvR G n φ H r σ ∧ Post G R (fun c d H' => W c d σ H') φ H (f r η) Q

/-- .. of what makes a new list -/
def rdL (G : Gd) (n : Nat) (W : WX) (f : Env → He → Rs (List Vl)) : L2.St → Hp → (V → Hp → Prop) → Prop := fun σ H Q =>
  ∃ φ η r, Sim G φ η H ∧ EnvR G n φ H r σ ∧ Post G (RL G H) (fun c d H' => W c d σ H') φ H (f r η) Q

/-- a def's body, or a comprehension's block, for these readings -/
structure XOk (X : Cx) (G : Gd) : Prop where
  prog : X.prog = G.P
  w : X.w = G.w
  K : X.K = G.K
  calm : X.calm = true
  nd : X.N.Nodup
  few : X.N.length ≤ 49
  units : X.A.units + 64 < cLine

def SE (X : Cx) (G : Gd) (e : Expr) (f : EvE) : Prop := ∀ W, Takes X W → PE X e (rd G X.N.length (RVl G) W f)
def ST (X : Cx) (G : Gd) (e : Expr) (f : EvT) : Prop := ∀ W, Takes X W → PT X e (rd G X.N.length RBl W f)
def SW (X : Cx) (G : Gd) (e : Expr) (f : EvT) : Prop := ∀ W, Takes X W → PW X e (rd G X.N.length RBl W f)
def SQ (X : Cx) (G : Gd) (e : Expr) (f : EvQ) : Prop := ∀ W, Takes X W → PE X e (rd G X.N.length (RQ G) W f)
def SL (X : Cx) (G : Gd) (e : Expr) (f : EvQ) : Prop := ∀ W, Takes X W → PE X e (rdL G X.N.length W f)
/-- arguments without stars; with stars -/
def SA (X : Cx) (G : Gd) (es : List Expr) (f : EvQ) : Prop := ∀ W, Takes X W → PA X es (rd G X.N.length (RAn G es.length) W f)
def SAS (X : Cx) (G : Gd) (es : List Expr) (f : EvQ) : Prop := ∀ W, Takes X W → PA X es (rd G X.N.length (RA G) W f)

section
variable {X : Cx} {G : Gd}
theorem Evo.upd {φ : List Addr} {H : Hp} {p : Addr} {o : HO} (h : H p = none) : Evo φ H φ (upd H p o) :=
  ⟨List.prefix_refl φ, fun a u e _ => by rw [upd_ne (ne_of_none e h)]; exact e, (fun a m n => absurd m n), fun a o u e => by rw [upd_ne (ne_of_none e h)]; exact e⟩
theorem RFs.evo {φ φ' : List Addr} {H H' : Hp} {C : Addr} {fs : List (Nat × Vl)} {ws : List (Str × V)} (e : Evo φ H φ' H') (t : Trk φ H) (h : RFs G φ H C fs ws) : RFs G φ' H' C fs ws :=
  ⟨h.1, fun i p q h1 h2 => let ⟨a, n, b⟩ := h.2 i p q h1 h2; ⟨a, n, b.evo e t⟩⟩
theorem RD.evo {φ φ' : List Addr} {H H' : Hp} {a : Addr} {es : List (Vl × Vl)} {u : HO} (e : Evo φ H φ' H') (t : Trk φ H) (h : RD G φ H a es u) : RD G φ' H' a es u := by
  obtain ⟨hs, xs, rfl, hl, hz, hn, h⟩ := h
  exact ⟨hs, xs, rfl, hl, hz, hn, fun i p q h1 h2 => let ⟨a, c, ⟨k, d, d'⟩, v, f, g⟩ := h i p q h1 h2; ⟨a, c, ⟨k, d.evo e t, d'⟩, v, f.evo e t, g⟩⟩
theorem RFs.kept {φ : List Addr} {H H' : Hp} {C : Addr} {fs : List (Nat × Vl)} {ws : List (Str × V)} (k : Kept H H') (h : RFs G φ H C fs ws) : RFs G φ H' C fs ws :=
  ⟨h.1, fun i p q h1 h2 => let ⟨a, n, b⟩ := h.2 i p q h1 h2; ⟨a, n, b.kept k⟩⟩
theorem RDT.kept {φ : List Addr} {H H' : Hp} {es : List (Vl × Vl)} {xs : List (Vl × Value × Value)} (k : Kept H H') (h : RDT G φ H es xs) : RDT G φ H' es xs := by
  obtain ⟨hl, hz, hn, h⟩ := h
  exact ⟨hl, hz, hn, fun i p q h1 h2 => let ⟨a, c, ⟨y, d, d'⟩, v, f, g⟩ := h i p q h1 h2; ⟨a, c, ⟨y, d.kept k, d'⟩, v, f.kept k, g⟩⟩
theorem RD.kept {φ : List Addr} {H H' : Hp} {a : Addr} {es : List (Vl × Vl)} {u : HO} (k : Kept H H') (h : RD G φ H a es u) : RD G φ H' a es u := by
  obtain ⟨hs, xs, rfl, h⟩ := h
  exact ⟨hs, xs, rfl, h.kept k⟩
theorem RO.kept {φ : List Addr} {H H' : Hp} {a : Addr} {o : Ob} (k : Kept H H') (e : H' a = H a) (h : RO G φ H a o) : RO G φ H' a o := by
  cases o with
  | lst xs => obtain ⟨vs, h1, h2⟩ := h; exact ⟨vs, by rw [e]; exact h1, h2.kept k⟩
  | ins c fs => obtain ⟨C, dx, ws, h0, h1, h2⟩ := h; exact ⟨C, dx, ws, h0, by rw [e]; exact h1, h2.kept k⟩
  | dic lk es => obtain ⟨u, h1, h2⟩ := h; exact ⟨u, by rw [e]; exact h1, h2.kept k⟩
theorem EnvR.kept {n : Nat} {φ : List Addr} {H H' : Hp} {r : Env} {σ : L2.St} (E : EnvR G n φ H r σ) (k : Kept H H') : EnvR G n φ H' r σ :=
  ⟨E.len, fun i x h hi => let ⟨v, h1, h2⟩ := E.at' i x h hi; ⟨v, h1, h2.kept k⟩⟩
/-- a thing that stood as it was -/
theorem RO.evo {φ φ' : List Addr} {H H' : Hp} {a : Addr} {o : Ob} (e : Evo φ H φ' H') (t : Trk φ H) (k : H' a = H a) (h : RO G φ H a o) : RO G φ' H' a o := by
  cases o with
  | lst xs => obtain ⟨vs, h1, h2⟩ := h; exact ⟨vs, by rw [k]; exact h1, h2.evo e t⟩
  | ins c fs => obtain ⟨C, dx, ws, h0, h1, h2⟩ := h; exact ⟨C, dx, ws, h0, by rw [k]; exact h1, h2.evo e t⟩
  | dic lk es => obtain ⟨u, h1, h2⟩ := h; exact ⟨u, by rw [k]; exact h1, h2.evo e t⟩
/-- what is not in the heap grew -/
theorem Sim.upd {φ : List Addr} {η : He} {H : Hp} {p : Addr} {o : HO} (S : Sim G φ η H) (h : H p = none) : Sim G φ η (upd H p o) :=
  ⟨S.len, S.nd, fun i a e => let ⟨u, h1, h2⟩ := S.ob i a e; ⟨u, h1, h2.evo (Evo.upd h) S.trk (upd_ne (by
    obtain ⟨v, hv, _⟩ := h2.ntup
    exact ne_of_none hv h))⟩⟩
theorem Sim.notIn {φ : List Addr} {η : He} {H : Hp} {p : Addr} (S : Sim G φ η H) (h : H p = none) : p ∉ φ := fun m => by
  obtain ⟨u, e, _⟩ := S.trk p m
  rw [h] at e; cases e

theorem Hr.get_set_ne : ∀ (t : Hr) (q p : Nat) (o : Ob), p ≠ q → (t.set q o).get p = t.get p
  | .nil, q, p, o, h => by
    cases q with
    | zero => cases p with
      | zero => exact absurd rfl h
      | succ p =>
        show (match Nat.mod p 2 with | 0 => Hr.nil.get (Nat.div p 2) | _ + 1 => Hr.nil.get (Nat.div p 2)) = none
        cases Nat.mod p 2 <;> rfl
    | succ q => rfl
  | .nd u l r, q, p, o, h => by
    cases q with
    | zero => cases p with
      | zero => exact absurd rfl h
      | succ p => rfl
    | succ q =>
      show Hr.get (match Nat.mod q 2 with | 0 => .nd u (l.set (Nat.div q 2) o) r | _ + 1 => .nd u l (r.set (Nat.div q 2) o)) p = _
      cases hq : Nat.mod q 2 with
      | zero =>
        cases p with
        | zero => rfl
        | succ p =>
          show (match Nat.mod p 2 with | 0 => (l.set (Nat.div q 2) o).get (Nat.div p 2) | _ + 1 => r.get (Nat.div p 2)) = (match Nat.mod p 2 with | 0 => l.get (Nat.div p 2) | _ + 1 => r.get (Nat.div p 2))
          cases hp : Nat.mod p 2 with
          | zero => exact Hr.get_set_ne l _ _ o fun e => h (by
              have h1 : q % 2 = 0 := hq
              have h2 : p % 2 = 0 := hp
              have h3 : p / 2 = q / 2 := e
              omega)
          | succ m => rfl
      | succ k =>
        cases p with
        | zero => rfl
        | succ p =>
          show (match Nat.mod p 2 with | 0 => l.get (Nat.div p 2) | _ + 1 => (r.set (Nat.div q 2) o).get (Nat.div p 2)) = (match Nat.mod p 2 with | 0 => l.get (Nat.div p 2) | _ + 1 => r.get (Nat.div p 2))
          cases hp : Nat.mod p 2 with
          | zero => rfl
          | succ m => exact Hr.get_set_ne r _ _ o fun e => h (by
              have h1 : q % 2 = k + 1 := hq
              have h2 : p % 2 = m + 1 := hp
              have h3 : p / 2 = q / 2 := e
              omega)
theorem Hr.get_set : ∀ (t : Hr) (q : Nat) (o u : Ob), t.get q = some u → (t.set q o).get q = some o
  | .nil, q, o, u, h => nomatch h
  | .nd v l r, q, o, u, h => by
    cases q with
    | zero => rfl
    | succ q =>
      have h' : (match Nat.mod q 2 with | 0 => l.get (Nat.div q 2) | _ + 1 => r.get (Nat.div q 2)) = some u := h
      show Hr.get (match Nat.mod q 2 with | 0 => .nd v (l.set (Nat.div q 2) o) r | _ + 1 => .nd v l (r.set (Nat.div q 2) o)) (q + 1) = _
      cases hq : Nat.mod q 2 with
      | zero =>
        rw [hq] at h'
        show (match Nat.mod q 2 with | 0 => (l.set (Nat.div q 2) o).get (Nat.div q 2) | _ + 1 => r.get (Nat.div q 2)) = _
        rw [hq]; exact Hr.get_set l _ o u h'
      | succ k =>
        rw [hq] at h'
        show (match Nat.mod q 2 with | 0 => l.get (Nat.div q 2) | _ + 1 => (r.set (Nat.div q 2) o).get (Nat.div q 2)) = _
        rw [hq]; exact Hr.get_set r _ o u h'
/-- the first free place -/
theorem Hr.get_new : ∀ (t : Hr) (n : Nat) (o : Ob), (∀ q, q < n → ∃ u, t.get q = some u) → (t.set n o).get n = some o
  | .nil, n, o, h => by
    cases n with
    | zero => rfl
    | succ n => obtain ⟨u, e⟩ := h 0 (Nat.succ_pos _); exact nomatch e
  | .nd v l r, n, o, h => by
    cases n with
    | zero => rfl
    | succ n =>
      show Hr.get (match Nat.mod n 2 with | 0 => .nd v (l.set (Nat.div n 2) o) r | _ + 1 => .nd v l (r.set (Nat.div n 2) o)) (n + 1) = _
      cases hq : Nat.mod n 2 with
      | zero =>
        show (match Nat.mod n 2 with | 0 => (l.set (Nat.div n 2) o).get (Nat.div n 2) | _ + 1 => r.get (Nat.div n 2)) = _
        rw [hq]
        refine Hr.get_new l _ o fun q hl => ?_
        have hl' : q < n / 2 := hl
        obtain ⟨u, e⟩ := h (2 * q + 1) (by omega)
        have e' : (match Nat.mod (2 * q) 2 with | 0 => l.get (Nat.div (2 * q) 2) | _ + 1 => r.get (Nat.div (2 * q) 2)) = some u := e
        have m1 : Nat.mod (2 * q) 2 = 0 := by show (2 * q) % 2 = 0; omega
        have d1 : Nat.div (2 * q) 2 = q := by show (2 * q) / 2 = q; omega
        rw [m1, d1] at e'
        exact ⟨u, e'⟩
      | succ k =>
        show (match Nat.mod n 2 with | 0 => l.get (Nat.div n 2) | _ + 1 => (r.set (Nat.div n 2) o).get (Nat.div n 2)) = _
        rw [hq]
        refine Hr.get_new r _ o fun q hl => ?_
        have hl' : q < n / 2 := hl
        have hq' : n % 2 = k + 1 := hq
        obtain ⟨u, e⟩ := h (2 * q + 2) (by omega)
        have e' : (match Nat.mod (2 * q + 1) 2 with | 0 => l.get (Nat.div (2 * q + 1) 2) | _ + 1 => r.get (Nat.div (2 * q + 1) 2)) = some u := e
        have m1 : Nat.mod (2 * q + 1) 2 = 1 := by show (2 * q + 1) % 2 = 1; omega
        have d1 : Nat.div (2 * q + 1) 2 = q := by show (2 * q + 1) / 2 = q; omega
        rw [m1, d1] at e'
        exact ⟨u, e'⟩
theorem frN_eq {α : Type} (n : Nat) (k : Nat → α) : frN n k = k n := by cases n <;> rfl
theorem frI_eq {α : Type} (i : Int) (k : Int → α) : frI i k = k i := by
  cases i with
  | ofNat n => exact frN_eq n fun n => k (.ofNat n)
  | negSucc n => exact frN_eq n fun n => k (.negSucc n)
theorem He.new_eq {α : Type} (h : He) (o : Ob) (k : Nat → He → α) : h.new o k = k h.n ⟨h.n + 1, h.t.set h.n o⟩ := frN_eq _ _

/-- a new thing comes into the heap -/
theorem Sim.new {φ : List Addr} {η : He} {H : Hp} {p : Addr} {o : Ob} (S : Sim G φ η H) (hp : p ∉ φ) (h : RO G φ H p o) : Sim G (φ ++ [p]) ⟨η.n + 1, η.t.set η.n o⟩ H := by
  have ev : ∀ H0 : Hp, (∀ a, a ∈ φ ++ [p] → a ∉ φ → H0 a = none) → Evo φ H0 (φ ++ [p]) H0 := fun H0 n => ⟨List.prefix_append _ _, (fun a o h _ => h), n, fun a o u h => h⟩
  have lt : ∀ {i a}, φ[i]? = some a → i < η.n := fun {i a} e => by rw [← S.len]; exact (List.getElem?_eq_some_iff.mp e).1
  have rv : ∀ {x v}, RV G.K φ H x v → RV G.K (φ ++ [p]) H x v := fun {x v} r => by
    induction r with
    | non => exact .non
    | bl b => exact .bl b
    | int i => exact .int i
    | str s => exact .str s
    | tup h hl _ ih => exact .tup h hl ih
    | fl h hl _ ih => exact .fl h hl ih
    | loc h => exact .loc (by rw [List.getElem?_append_left (List.getElem?_eq_some_iff.mp h).1]; exact h)
  have ro : ∀ {a u}, RO G φ H a u → RO G (φ ++ [p]) H a u := fun {a u} r => by
    cases u with
    | lst xs => obtain ⟨vs, h1, h2⟩ := r; exact ⟨vs, h1, h2.1, fun i x v a b => rv (h2.2 i x v a b)⟩
    | ins c fs => obtain ⟨C, dx, ws, h0, h1, h2⟩ := r; exact ⟨C, dx, ws, h0, h1, h2.1, fun i x v a b => ⟨(h2.2 i x v a b).1, (h2.2 i x v a b).2.1, rv (h2.2 i x v a b).2.2⟩⟩
    | dic lk es =>
      obtain ⟨u, h1, h2⟩ := r
      refine ⟨u, h1, ?_⟩
      obtain ⟨hs, xs, rfl, hl, hz, hn, h⟩ := h2
      exact ⟨hs, xs, rfl, hl, hz, hn, fun i p q h1 h2 => let ⟨a, c, ⟨k, d, d'⟩, v, f, g⟩ := h i p q h1 h2; ⟨a, c, ⟨k, rv d, d'⟩, v, rv f, g⟩⟩
  refine ⟨by simp [S.len], ?_, fun i a e => ?_⟩
  · exact List.nodup_append.mpr ⟨S.nd, by simp, fun a ha b hb => by simp at hb; subst hb; rintro rfl; exact hp ha⟩
  · by_cases hi : i < φ.length
    · rw [List.getElem?_append_left hi] at e
      obtain ⟨u, h1, h2⟩ := S.ob i a e
      refine ⟨u, ?_, ro h2⟩
      show (η.t.set η.n o).get i = some u
      rw [Hr.get_set_ne _ _ _ _ (by rw [← S.len]; omega)]
      exact h1
    · rw [List.getElem?_append_right (by omega)] at e
      have hi2 : i - φ.length = 0 := by
        have := (List.getElem?_eq_some_iff.mp e).1
        simp at this; omega
      rw [hi2] at e
      simp at e
      subst e
      have hn : i = η.n := by rw [← S.len]; omega
      refine ⟨o, ?_, ro h⟩
      show (η.t.set η.n o).get i = some o
      rw [hn]
      refine Hr.get_new _ _ _ fun q hq => ?_
      rw [← S.len] at hq
      obtain ⟨u, h1, _⟩ := S.ob q _ (List.getElem?_eq_getElem hq)
      exact ⟨u, h1⟩

theorem Evo.fresh {φ φ1 : List Addr} {H H1 : Hp} {a : Addr} (e : Evo φ H φ1 H1) (t : Trk φ1 H1) (h : H1 a = none) : H a = none := by
  cases q : H a with
  | none => rfl
  | some o =>
    by_cases m : a ∈ φ
    · obtain ⟨u, hu, _⟩ := t a (e.pre.subset m)
      rw [h] at hu; cases hu
    · rw [e.old a o q m] at h; cases h
theorem Evo.add {φ φ1 : List Addr} {H H1 : Hp} {a : Addr} (e : Evo φ H φ1 H1) (h : H a = none) : Evo φ H (φ1 ++ [a]) H1 :=
  ⟨e.pre.trans (List.prefix_append _ _), e.old, fun b m n => by
    rcases List.mem_append.mp m with m | m
    · exact e.new b m n
    · simp at m; subst m; exact h, e.frz⟩

theorem acc7_set7 {α : Type} (i j : Nat) (v : α) (r : E7 α) (hi : i < 7) (hj : j < 7) : acc7 i (set7 j v r) = if i = j then v else acc7 i r := by
  match i, j, hi, hj with
  | 0, 0, _, _ | 0, 1, _, _ | 0, 2, _, _ | 0, 3, _, _ | 0, 4, _, _ | 0, 5, _, _ | 0, 6, _, _ => rfl
  | 1, 0, _, _ | 1, 1, _, _ | 1, 2, _, _ | 1, 3, _, _ | 1, 4, _, _ | 1, 5, _, _ | 1, 6, _, _ => rfl
  | 2, 0, _, _ | 2, 1, _, _ | 2, 2, _, _ | 2, 3, _, _ | 2, 4, _, _ | 2, 5, _, _ | 2, 6, _, _ => rfl
  | 3, 0, _, _ | 3, 1, _, _ | 3, 2, _, _ | 3, 3, _, _ | 3, 4, _, _ | 3, 5, _, _ | 3, 6, _, _ => rfl
  | 4, 0, _, _ | 4, 1, _, _ | 4, 2, _, _ | 4, 3, _, _ | 4, 4, _, _ | 4, 5, _, _ | 4, 6, _, _ => rfl
  | 5, 0, _, _ | 5, 1, _, _ | 5, 2, _, _ | 5, 3, _, _ | 5, 4, _, _ | 5, 5, _, _ | 5, 6, _, _ => rfl
  | 6, 0, _, _ | 6, 1, _, _ | 6, 2, _, _ | 6, 3, _, _ | 6, 4, _, _ | 6, 5, _, _ | 6, 6, _, _ => rfl
  | i + 7, _, h, _ => omega
  | _, j + 7, _, h => omega
theorem gOf_sOf (i j : Nat) (v : Option Vl) (r : Env) (hi : i < 49) (hj : j < 49) : gOf i (sOf j v r) = if i = j then v else gOf i r := by
  unfold gOf sOf
  show acc7 (i % 7) (acc7 (i / 7) (set7 (j / 7) (set7 (j % 7) v (acc7 (j / 7) r)) r)) = _
  rw [acc7_set7 _ _ _ _ (by omega) (by omega)]
  by_cases h1 : i / 7 = j / 7
  · rw [if_pos h1, acc7_set7 _ _ _ _ (by omega) (by omega)]
    by_cases h2 : i % 7 = j % 7
    · rw [if_pos h2, if_pos (by omega)]
    · rw [if_neg h2, if_neg (by omega), h1]
  · rw [if_neg h1, if_neg (by rintro rfl; exact h1 rfl)]
theorem EnvR.set {n : Nat} {φ : List Addr} {H : Hp} {r : Env} {σ : L2.St} (E : EnvR G n φ H r σ) {i : Nat} {x : Vl} {v : V} (hi : i < n) (h9 : n ≤ 49) (h : RV G.K φ H x v) :
    EnvR G n φ H (sOf i (some x) r) (σ.set i (some v)) := by
  refine ⟨by simp [E.len], fun j y hy hj => ?_⟩
  rw [gOf_sOf j i _ _ hj (by omega)] at hy
  by_cases e : j = i
  · subst e
    rw [if_pos rfl] at hy
    cases hy
    exact ⟨v, List.getElem?_set_self (by rw [E.len]; exact hi), h⟩
  · rw [if_neg e] at hy
    obtain ⟨w, h1, h2⟩ := E.at' j y hy hj
    exact ⟨w, by rw [List.getElem?_set_ne (Ne.symm e)]; exact h1, h2⟩
theorem EnvR.unset {n : Nat} {φ : List Addr} {H : Hp} {r : Env} {σ : L2.St} (E : EnvR G n φ H r σ) {i : Nat} (hi : i < n) (h9 : n ≤ 49) (v : Option V) : EnvR G n φ H (sOf i none r) (σ.set i v) := by
  refine ⟨by simp [E.len], fun j y hy hj => ?_⟩
  rw [gOf_sOf j i _ _ hj (by omega)] at hy
  by_cases e : j = i
  · rw [if_pos e] at hy; cases hy
  · rw [if_neg e] at hy
    obtain ⟨w, h1, h2⟩ := E.at' j y hy hj
    exact ⟨w, by rw [List.getElem?_set_ne (Ne.symm e)]; exact h1, h2⟩

theorem s_var {i : Nat} {x : Str} {pos : Pos} (O : XOk X G) (hN : X.N[i]? = some x) (hv : Vis X.env.scope x) (hd : (x == ("__debug__" : Str)) = false) (hcd : (x == ("__classdict__" : Str)) = false) : SE X G (.Name x pos) (eVar (gOf i)) := by
  intro W tk
  refine peWeak (pe_var hN hv hd hcd) fun σ H Q ⟨φ, η, r, S, E, p⟩ => ?_
  have hi : i < 49 := Nat.lt_of_lt_of_le (List.getElem?_eq_some_iff.mp hN).1 O.few
  unfold eVar at p
  cases e : gOf i r with
  | none => rw [e] at p; exact p.elim
  | some y =>
    rw [e] at p
    obtain ⟨v, h1, h2⟩ := E.at' i y e hi
    exact ⟨v, h1, p φ H v Evo.refl S h2⟩
theorem s_cst {e : Expr} {x : Vl} {v : V} (h : PE X e (tC v)) (r : ∀ φ H, RV G.K φ H x v) : SE X G e (eCst x) := by
  intro W tk
  exact peWeak h fun σ H Q ⟨φ, η, r', S, E, p⟩ => p φ H v Evo.refl S (r φ H)
theorem s_int {i : Int} {j : Nat} {pos : Pos} : SE X G (.Constant (.int i) j pos) (eCst (.int i)) := s_cst pe_int fun _ _ => .int i
theorem s_bl {b : Bool} {j : Nat} {pos : Pos} : SE X G (.Constant (.bool b) j pos) (eCst (.bl b)) := s_cst pe_bl fun _ _ => .bl b
theorem s_non {j : Nat} {pos : Pos} : SE X G (.Constant .none j pos) (eCst .non) := s_cst pe_non fun _ _ => .non
theorem s_str {x : Str} {j : Nat} {pos : Pos} : SE X G (.Constant (.str x) j pos) (eCst (.str x.cps.toList)) := s_cst pe_str fun _ _ => by
  have e : strOf x.cps.toList = x := by cases x; simp [strOf]
  have := RV.str (K := G.K) (φ := ‹_›) (H := ‹_›) x.cps.toList
  rw [e] at this; exact this

def OP2 (X : Cx) (G : Gd) (f : Value → Value → Sem Value) (p : P2) : Prop := ∀ W : Value → Option Addr → Hp → Prop, OpR X f fun v w H Q => ∃ φ η x y, Sim G φ η H ∧ RV G.K φ H x v ∧ RV G.K φ H y w ∧ Post G (RVl G) W φ H (p x y η) Q
theorem opWeak {f : Value → Value → Sem Value} {r r' : R2} (h : OpR X f r) (i : ∀ v w H Q, r' v w H Q → r v w H Q) : OpR X f r' :=
  fun pins s σ H v w u1 u2 Q I r1 r2 q => h pins s σ H v w u1 u2 Q I r1 r2 (i _ _ _ _ q)
/-- one, then what goes on from it -/
theorem rd_bind {α β γ δ : Type} {R : List Addr → Hp → α → β → Prop} {R' : List Addr → Hp → γ → δ → Prop} {n : Nat} {W : WX} {fa : Env → He → Rs α} {k : α → Env → He → Rs γ} {σ : L2.St} {H : Hp} {Q : δ → Hp → Prop}
    (h : rd G n R' W (fun r h => (fa r h).bind fun x h => k x r h) σ H Q) :
    rd G n R W fa σ H fun v H1 => ∃ φ η r x, Sim G φ η H1 ∧ EnvR G n φ H1 r σ ∧ R φ H1 x v ∧ Post G R' (fun c d H' => W c d σ H') φ H1 (k x r η) Q := by
  obtain ⟨φ, η, r, S, E, p⟩ := h
  refine ⟨φ, η, r, S, E, (Post.bind (R := R) p).imp ?_⟩
  rintro b H1 ⟨φ1, η1, a, e, S1, r1, p1⟩
  exact ⟨φ1, η1, r, a, S1, E.evo e S.trk, r1, p1⟩
/-- .. from a result on -/
theorem post_bind {α β γ δ : Type} {R : List Addr → Hp → α → β → Prop} {R' : List Addr → Hp → γ → δ → Prop} {n : Nat} {W : WX} {φ : List Addr} {η : He} {H : Hp} {r : Env} {fa : Env → He → Rs α} {k : α → He → Rs γ} {σ : L2.St} {Q : δ → Hp → Prop}
    (S : Sim G φ η H) (E : EnvR G n φ H r σ) (p : Post G R' (fun c d H' => W c d σ H') φ H ((fa r η).bind k) Q) :
    rd G n R W fa σ H fun v H1 => ∃ φ1 η1 x, Evo φ H φ1 H1 ∧ Sim G φ1 η1 H1 ∧ EnvR G n φ1 H1 r σ ∧ R φ1 H1 x v ∧ Post G R' (fun c d H' => W c d σ H') φ1 H1 (k x η1) Q := by
  refine ⟨φ, η, r, S, E, (Post.bind (R := R) p).imp ?_⟩
  rintro b H1 ⟨φ1, η1, a, e, S1, r1, p1⟩
  exact ⟨φ1, η1, a, e, S1, E.evo e S.trk, r1, p1⟩
theorem rd.imp {α β : Type} {R : List Addr → Hp → α → β → Prop} {n : Nat} {W : WX} {f : Env → He → Rs α} {σ : L2.St} {H : Hp} {Q Q' : β → Hp → Prop} (h : rd G n R W f σ H Q) (i : ∀ b H', Q b H' → Q' b H') : rd G n R W f σ H Q' := by
  obtain ⟨φ, η, r, S, E, p⟩ := h
  exact ⟨φ, η, r, S, E, p.imp i⟩
section
variable {n : Nat} {W : WX} {σ : L2.St} {H : Hp}
theorem one {a : EvE} {p : P1} {Q : V → Hp → Prop} (h : rd G n (RVl G) W (e1 p a) σ H Q) :
    rd G n (RVl G) W a σ H fun v H1 => ∃ φ η x, Sim G φ η H1 ∧ RV G.K φ H1 x v ∧ Post G (RVl G) (fun c d H' => W c d σ H') φ H1 (p x η) Q :=
  (rd_bind (R := RVl G) (k := fun x _ h => p x h) h).imp fun v H1 ⟨φ1, η1, r1, x, S1, E1, R1, p1⟩ => ⟨φ1, η1, x, S1, R1, p1⟩
theorem two {a b : EvE} {p : P2} {Q : V → Hp → Prop} (h : rd G n (RVl G) W (e2 p a b) σ H Q) :
    rd G n (RVl G) W a σ H fun v H1 => rd G n (RVl G) W b σ H1 fun w H2 => ∃ φ η x y, Sim G φ η H2 ∧ RV G.K φ H2 x v ∧ RV G.K φ H2 y w ∧ Post G (RVl G) (fun c d H' => W c d σ H') φ H2 (p x y η) Q :=
  (rd_bind (R := RVl G) (k := fun x r h => (b r h).bind fun y h => p x y h) h).imp fun v H1 ⟨φ1, η1, r1, x, S1, E1, R1, p1⟩ =>
    (post_bind (R := RVl G) (fa := b) (k := fun y h => p x y h) S1 E1 p1).imp fun w H2 ⟨φ2, η2, y, ev, S2, E2, R2, p2⟩ => ⟨φ2, η2, x, y, S2, R1.evo ev S1.trk, R2, p2⟩
theorem three {a b c : EvE} {p : P3} {Q : V → Hp → Prop} (h : rd G n (RVl G) W (e3 p a b c) σ H Q) :
    rd G n (RVl G) W a σ H fun v H1 => rd G n (RVl G) W b σ H1 fun w H2 => rd G n (RVl G) W c σ H2 fun u H3 => ∃ φ η x y z, Sim G φ η H3 ∧ RV G.K φ H3 x v ∧ RV G.K φ H3 y w ∧ RV G.K φ H3 z u ∧ Post G (RVl G) (fun c d H' => W c d σ H') φ H3 (p x y z η) Q :=
  (rd_bind (R := RVl G) (k := fun x r h => (b r h).bind fun y h => (c r h).bind fun z h => p x y z h) h).imp fun v H1 ⟨φ1, η1, r1, x, S1, E1, R1, p1⟩ =>
    (post_bind (R := RVl G) (fa := b) (k := fun y h => (c r1 h).bind fun z h => p x y z h) S1 E1 p1).imp fun w H2 ⟨φ2, η2, y, ev, S2, E2, R2, p2⟩ =>
      (post_bind (R := RVl G) (fa := c) (k := fun z h => p x y z h) S2 E2 p2).imp fun u H3 ⟨φ3, η3, z, ev3, S3, E3, R3, p3⟩ => ⟨φ3, η3, x, y, z, S3, (R1.evo ev S1.trk).evo ev3 S2.trk, R2.evo ev3 S2.trk, R3, p3⟩
end

theorem s_bin {a b : Expr} {fa fb : EvE} {op : Operator} {p : P2} {pos : Pos} (ho : OP2 X G (binaryOp op) p) (ha : SE X G a fa) (hb : SE X G b fb) : SE X G (.BinOp a op b pos) (e2 p fa fb) := fun W tk => by
  refine ⟨fun pins s σ H Q I h => ?_⟩
  exact (pe_op (ho fun c d H' => W c d σ H') (ha W tk) (hb W tk)).run pins s σ H Q I (two h)
theorem s_cmp {a b : Expr} {fa fb : EvE} {op : CmpOp} {p : P2} {pos : Pos} (ho : OP2 X G (compareOp op) p) (hm : behindInMarks op b = false) (ha : SE X G a fa) (hb : SE X G b fb) : SE X G (.Compare a [op] [b] pos) (e2 p fa fb) := fun W tk => by
  refine ⟨fun pins s σ H Q I h => ?_⟩
  exact (pe_cmpR (ho fun c d H' => W c d σ H') (ha W tk) (hb W tk) hm).run pins s σ H Q I (two h)
def OP1 (X : Cx) (G : Gd) (f : Value → Sem Value) (p : P1) : Prop := ∀ W : Value → Option Addr → Hp → Prop, UnR X f fun v H Q => ∃ φ η x, Sim G φ η H ∧ RV G.K φ H x v ∧ Post G (RVl G) W φ H (p x η) Q
theorem s_un {a : Expr} {fa : EvE} {op : UnaryOp} {p : P1} {pos : Pos} (ho : OP1 X G (unaryOp op) p) (ha : SE X G a fa) : SE X G (.UnaryOp op a pos) (e1 p fa) := fun W tk => by
  refine ⟨fun pins s σ H Q I h => ?_⟩
  exact (pe_un (ho fun c d H' => W c d σ H') (ha W tk)).run pins s σ H Q I (one h)

theorem starEach_cons {e : Expr} {es : List Expr} {env : PySem.Env} (h : ∀ v p, e ≠ .Starred v p) : starEach (e :: es) env = (false, eval e env) :: starEach es env := by
  cases e <;> first | rfl | exact absurd rfl (h _ _)
theorem backTo_cons {b : Bool} {t : Sem Value} {ts : List (Bool × Sem Value)} {pos : Pos} : backTo pos ((b, t) :: ts) = (b, if b then do let v ← t; standAt pos; pure v else t) :: backTo pos ts := rfl
def NoStar (es : List Expr) : Prop := ∀ e, e ∈ es → ∀ v p, e ≠ .Starred v p
theorem NoStar.any : ∀ {es : List Expr} {env : PySem.Env} {pos : Pos}, NoStar es → (backTo pos (starEach es env)).any (·.1) = false
  | [], _, _, _ => rfl
  | e :: es, env, pos, h => by
    rw [starEach_cons (h e List.mem_cons_self), backTo_cons]
    show (false || (backTo pos (starEach es env)).any (·.1)) = false
    rw [NoStar.any fun e' m => h e' (List.mem_cons_of_mem _ m)]; rfl
theorem sa_nil : SA X G [] qNil := fun W tk => by
  refine paWeak pa_nil fun σ H Q ⟨φ, η, r, S, E, p⟩ => ?_
  exact p φ H [] Evo.refl S ⟨RVs.nil, rfl⟩
theorem sa_cons {e : Expr} {es : List Expr} {f : EvE} {t : EvQ} (hn : ∀ v p, e ≠ .Starred v p) (h : SE X G e f) (ht : SA X G es t) : SA X G (e :: es) (qCons f t) := fun W tk => by
  refine paWeak (pa_cons (h W tk) (ht W tk) (starEach_cons hn)) fun σ H Q q => ?_
  refine (rd_bind (R := RVl G) (k := fun v r h => (t r h).bind fun vs h => .ok (v :: vs) h) q).imp ?_
  rintro v H1 ⟨φ1, η1, r1, x, S1, E1, R1, p1⟩
  refine (post_bind (R := RAn G es.length) (fa := t) (k := fun vs h => .ok (x :: vs) h) S1 E1 p1).imp ?_
  rintro vs H2 ⟨φ2, η2, xs, ev, S2, E2, R2, p2⟩
  exact p2 φ2 H2 (v :: vs) Evo.refl S2 ⟨RVs.cons (R1.evo ev S1.trk) R2.1, by simp [R2.2]⟩
theorem sas_nil : SAS X G [] qNil := fun W tk => by
  refine paWeak pa_nil fun σ H Q ⟨φ, η, r, S, E, p⟩ => ?_
  exact p φ H [] Evo.refl S RVs.nil
theorem sas_cons {e : Expr} {es : List Expr} {f : EvE} {t : EvQ} (hn : ∀ v p, e ≠ .Starred v p) (h : SE X G e f) (ht : SAS X G es t) : SAS X G (e :: es) (qCons f t) := fun W tk => by
  refine paWeak (pa_cons (h W tk) (ht W tk) (starEach_cons hn)) fun σ H Q q => ?_
  refine (rd_bind (R := RVl G) (k := fun v r h => (t r h).bind fun vs h => .ok (v :: vs) h) q).imp ?_
  rintro v H1 ⟨φ1, η1, r1, x, S1, E1, R1, p1⟩
  refine (post_bind (R := RA G) (fa := t) (k := fun vs h => .ok (x :: vs) h) S1 E1 p1).imp ?_
  rintro vs H2 ⟨φ2, η2, xs, ev, S2, E2, R2, p2⟩
  exact p2 φ2 H2 (v :: vs) Evo.refl S2 (RVs.cons (R1.evo ev S1.trk) R2)
theorem sas_star {e : Expr} {es : List Expr} {s t : EvQ} {p : Pos} (O : XOk X G) (h : SQ X G e s) (ht : SAS X G es t) : SAS X G (.Starred e p :: es) (qStar s t) := fun W tk => by
  refine paWeak (StX.pa_star (h W tk) (ht W tk)) fun σ H Q q => ?_
  refine (rd_bind (R := RQ G) (k := fun xs r h => (t r h).bind fun ys h => .ok (xs ++ ys) h) q).imp ?_
  rintro v H1 ⟨φ1, η1, r1, xs, S1, E1, ⟨a, vs, rfl, hq, R1⟩, p1⟩
  refine ⟨a, vs, rfl, by rw [O.K]; exact hq.symm.imp SqD.t id, ?_⟩
  refine (post_bind (R := RA G) (fa := t) (k := fun ys h => .ok (xs ++ ys) h) S1 E1 p1).imp ?_
  rintro ws H2 ⟨φ2, η2, ys, ev, S2, E2, R2, p2⟩
  exact p2 φ2 H2 (vs ++ ws) Evo.refl S2 ((R1.evo ev S1.trk).append R2)

section
variable {n : Nat} {W : WX} {σ : L2.St} {H : Hp}
theorem rd_at {α β : Type} {R : List Addr → Hp → α → β → Prop} {f : Env → He → Rs α} {φ : List Addr} {η : He} {r : Env} {Q : β → Hp → Prop} (S : Sim G φ η H) (E : EnvR G n φ H r σ) (p : Post G R (fun c d H' => W c d σ H') φ H (f r η) Q) : rd G n R W f σ H Q := ⟨φ, η, r, S, E, p⟩
theorem ite_of {P Q : Prop} {c : Bool} (h1 : c = true → P) (h2 : c = false → Q) : if c = true then P else Q := by
  cases c with
  | true => exact h1 rfl
  | false => exact h2 rfl
end
theorem isNil_eq {α : Type} (xs : List α) : isNil xs = xs.isEmpty := by cases xs <;> rfl
theorem ibeq_eq (i j : Int) : ibeq i j = decide (i = j) := by
  cases i with
  | ofNat a => cases j with
    | ofNat b =>
      show Nat.beq a b = _
      by_cases h : a = b
      · subst h; simp
      · rw [decide_eq_false (fun e => h (Int.ofNat.inj e))]
        exact Bool.eq_false_iff.mpr fun e => h (Nat.eq_of_beq_eq_true e)
    | negSucc b => show false = _; simp
  | negSucc a => cases j with
    | ofNat b => show false = _; simp
    | negSucc b =>
      show Nat.beq a b = _
      by_cases h : a = b
      · subst h; simp
      · rw [decide_eq_false (fun e => h (Int.negSucc.inj e))]
        exact Bool.eq_false_iff.mpr fun e => h (Nat.eq_of_beq_eq_true e)
/-- truth, by the layer -/
theorem tru_rel {φ : List Addr} {η : He} {H : Hp} {x : Vl} {v : V} {k : Bool} (S : Sim G φ η H) (r : RV G.K φ H x v) (h : tru η x = some k) : TruV G.K v H k := by
  cases r with
  | non => cases h; rfl
  | bl b => cases h; rfl
  | int i =>
    cases h
    show (!ibeq i 0) = (i != 0)
    rw [ibeq_eq]; rfl
  | str s => cases h
  | tup hq hl hx =>
    rename_i xs a vs
    cases h
    refine .inr (.inl ⟨vs, hq.t, ?_⟩)
    rw [isNil_eq]
    cases xs <;> cases vs <;> first | rfl | (simp at hl)
  | fl hq hl hx => cases h
  | loc hn =>
    rename_i m a
    obtain ⟨o, ho, ro⟩ := S.ob m a hn
    unfold tru at h
    simp only [ho] at h
    cases o with
    | lst xs =>
      obtain ⟨vs, hH, hl, _⟩ := ro
      cases h
      refine .inl ⟨vs, SqL.of hH, ?_⟩
      rw [isNil_eq]
      cases xs <;> cases vs <;> first | rfl | (simp at hl)
    | dic lk es => cases h
    | ins c fs => cases h
theorem t_ofE {e : Expr} {f : EvE} (O : XOk X G) (he : ∀ whole, isTrue e X.env whole = (do let v ← whole; standAt e.pos; holding [v] (truthy v))) (h : SE X G e f) : ST X G e (tOfE f) := fun W tk => by
  refine ptWeak (pt_truth (h W tk) he) fun σ H Q q => ?_
  refine (rd_bind (R := RVl G) (k := fun v _ h => match tru h v with | some b => .ok b h | none => .bad 202) q).imp ?_
  rintro v H1 ⟨φ1, η1, r1, x, S1, E1, R1, p1⟩
  cases ht : tru η1 x with
  | none => simp only [ht] at p1; exact p1.elim
  | some k =>
    simp only [ht] at p1
    exact ⟨k, by rw [O.K]; exact tru_rel S1 R1 ht, p1 φ1 H1 k Evo.refl S1 rfl⟩
theorem bl_of {G : Gd} {φ : List Addr} {H : Hp} {x : Vl} {v : V} {b : Bool} (r : RV G.K φ H x v) (e : x = .bl b) : v = .bl b := by
  subst e; cases r; rfl
theorem t_bl {e : Expr} {f : EvE} {t : TE} (h : PT X e (tTest t)) (i : ∀ W, Takes X W → ∀ σ H Q, rd G X.N.length (RVl G) W f σ H Q → t σ H Q) : ST X G e (tBl f) := fun W tk => by
  refine ptWeak h fun σ H Q q => ?_
  refine i W tk σ H _ ?_
  refine (rd_bind (R := RVl G) (k := fun v _ h => match v with | .bl b => .ok b h | _ => .bad 203) q).imp ?_
  rintro v H1 ⟨φ1, η1, r1, x, S1, E1, R1, p1⟩
  cases x with
  | bl b => exact ⟨b, bl_of R1 rfl, p1 φ1 H1 b Evo.refl S1 rfl⟩
  | _ => exact p1.elim
theorem blTest {n : Nat} {W : WX} {σ : L2.St} {H : Hp} {f : EvE} {Q : Bool → Hp → Prop} (q : rd G n RBl W (tBl f) σ H Q) : rd G n (RVl G) W f σ H fun v H1 => ∃ k, v = .bl k ∧ Q k H1 :=
  (rd_bind (R := RVl G) (k := fun v _ h => match v with | .bl b => .ok b h | _ => .bad 203) q).imp fun v H1 ⟨φ1, η1, r1, x, S1, E1, R1, p1⟩ => by
    cases x with
    | bl b => exact ⟨b, bl_of R1 rfl, p1 φ1 H1 b Evo.refl S1 rfl⟩
    | _ => exact p1.elim
theorem t_cmp {a b : Expr} {fa fb : EvE} {op : CmpOp} {p : P2} {pos : Pos} (ho : OP2 X G (compareOp op) p) (hm : behindInMarks op b = false) (ha : SE X G a fa) (hb : SE X G b fb) : ST X G (.Compare a [op] [b] pos) (tBl (e2 p fa fb)) := fun W tk =>
  ⟨fun pins s σ H Q I q => (pt_cmpR (ho fun c d H' => W c d σ H') (ha W tk) (hb W tk) hm).run pins s σ H Q I (two (blTest q))⟩
theorem chainR {n : Nat} {W : WX} {σ : L2.St} {H : Hp} {fa fb fc : EvE} {p q : P2} {Q : V → Hp → Prop} (h : rd G n (RVl G) W (eChain p q fa fb fc) σ H Q) :
    tChain (fun v w H Q => ∃ φ η x y, Sim G φ η H ∧ RV G.K φ H x v ∧ RV G.K φ H y w ∧ Post G (RVl G) (fun c d H' => W c d σ H') φ H (p x y η) Q)
      (fun v w H Q => ∃ φ η x y, Sim G φ η H ∧ RV G.K φ H x v ∧ RV G.K φ H y w ∧ Post G (RVl G) (fun c d H' => W c d σ H') φ H (q x y η) Q)
      (rd G n (RVl G) W fa) (rd G n (RVl G) W fb) (rd G n (RVl G) W fc) σ H Q := by
  refine (rd_bind (R := RVl G) (k := fun x r h => (fb r h).bind fun y h => (p x y h).bind fun w h => match w with | .bl k => (match k with | true => (fc r h).bind fun z h => q y z h | false => .ok w h) | _ => .bad 202) h).imp ?_
  rintro v H1 ⟨φ1, η1, r1, x, S1, E1, R1, p1⟩
  refine (post_bind (R := RVl G) (fa := fb) (k := fun y h => (p x y h).bind fun w h => match w with | .bl k => (match k with | true => (fc r1 h).bind fun z h => q y z h | false => .ok w h) | _ => .bad 202) S1 E1 p1).imp ?_
  rintro w H2 ⟨φ2, η2, y, ev, S2, E2, R2, p2⟩
  refine ⟨φ2, η2, x, y, S2, R1.evo ev S1.trk, R2, (Post.bind (R := RVl G) p2).imp ?_⟩
  rintro z H3 ⟨φ3, η3, u, ev3, S3, R3, p3⟩
  cases u with
  | bl k =>
    refine ⟨k, bl_of R3 rfl, ite_of (fun e => ?_) fun e => ?_⟩
    · subst e
      refine (post_bind (R := RVl G) (fa := fc) (k := fun z h => q y z h) S3 (E2.evo ev3 S2.trk) p3).imp ?_
      rintro t H4 ⟨φ4, η4, u, ev4, S4, E4, R4, p4⟩
      exact ⟨φ4, η4, y, u, S4, (R2.evo ev3 S2.trk).evo ev4 S3.trk, R4, p4⟩
    · subst e
      have := p3 φ3 H3 (.bl false) Evo.refl S3 (.bl false)
      exact this
  | _ => exact p3.elim
theorem s_chain {a b c : Expr} {fa fb fc : EvE} {op op' : CmpOp} {p q : P2} {pos : Pos} (ho : OP2 X G (compareOp op) p) (ho' : OP2 X G (compareOp op') q) (hm : lastMarks [op, op'] [b, c] = false) (ha : SE X G a fa) (hb : SE X G b fb) (hc : SE X G c fc) :
    SE X G (.Compare a [op, op'] [b, c] pos) (eChain p q fa fb fc) := fun W tk =>
  ⟨fun pins s σ H Q I h => (pe_chain (ho fun c d H' => W c d σ H') (ho' fun c d H' => W c d σ H') (ha W tk) (hb W tk) (hc W tk) hm).run pins s σ H Q I (chainR h)⟩
theorem t_chain {a b c : Expr} {fa fb fc : EvE} {op op' : CmpOp} {p q : P2} {pos : Pos} (ho : OP2 X G (compareOp op) p) (ho' : OP2 X G (compareOp op') q) (hm : lastMarks [op, op'] [b, c] = false) (ha : SE X G a fa) (hb : SE X G b fb) (hc : SE X G c fc) :
    ST X G (.Compare a [op, op'] [b, c] pos) (tBl (eChain p q fa fb fc)) := fun W tk =>
  ⟨fun pins s σ H Q I h => (pt_chain (ho fun c d H' => W c d σ H') (ho' fun c d H' => W c d σ H') (ha W tk) (hb W tk) (hc W tk) hm).run pins s σ H Q I (chainR (blTest h))⟩
theorem t_not {a : Expr} {f : EvT} {pos : Pos} (h : ST X G a f) : ST X G (.UnaryOp .Not a pos) (tNot f) := fun W tk => by
  refine ptWeak (pt_not (h W tk)) fun σ H Q q => ?_
  refine (rd_bind (R := RBl) (k := fun c _ h => .ok (!c) h) q).imp ?_
  rintro v H1 ⟨φ1, η1, r1, x, S1, E1, R1, p1⟩
  subst R1
  exact p1 φ1 H1 _ Evo.refl S1 rfl
theorem w_and1 {a : Expr} {f : EvT} {pos : Pos} (h : ST X G a f) : SW X G (.BoolOp .And [a] pos) f := fun W tk => pw_and1 (h W tk)
theorem w_or1 {a : Expr} {f : EvT} {pos : Pos} (h : ST X G a f) : SW X G (.BoolOp .Or [a] pos) f := fun W tk => pw_or1 (h W tk)
theorem w_and {a b : Expr} {r : List Expr} {f g : EvT} {pos : Pos} (h : ST X G a f) (t : SW X G (.BoolOp .And (b :: r) pos) g) : SW X G (.BoolOp .And (a :: b :: r) pos) (tAnd f g) := fun W tk => by
  refine pwWeak (pw_and (h W tk) (t W tk)) fun σ H Q q => ?_
  refine (rd_bind (R := RBl) (k := fun c r h => match c with | true => g r h | false => .ok false h) q).imp ?_
  rintro c H1 ⟨φ1, η1, r1, x, S1, E1, R1, p1⟩
  subst R1
  cases x with
  | true => exact rd_at S1 E1 p1
  | false => exact p1 φ1 H1 _ Evo.refl S1 rfl
theorem w_or {a b : Expr} {r : List Expr} {f g : EvT} {pos : Pos} (h : ST X G a f) (t : SW X G (.BoolOp .Or (b :: r) pos) g) : SW X G (.BoolOp .Or (a :: b :: r) pos) (tOr f g) := fun W tk => by
  refine pwWeak (pw_or (h W tk) (t W tk)) fun σ H Q q => ?_
  refine (rd_bind (R := RBl) (k := fun c r h => match c with | true => .ok true h | false => g r h) q).imp ?_
  rintro c H1 ⟨φ1, η1, r1, x, S1, E1, R1, p1⟩
  subst R1
  cases x with
  | false => exact rd_at S1 E1 p1
  | true => exact p1 φ1 H1 _ Evo.refl S1 rfl
theorem t_w {e : Expr} {f : EvT} (h : SW X G e f) : ST X G e f := fun W tk => (h W tk).pt

theorem s_ite {c a b : Expr} {t : EvT} {fa fb : EvE} {pos : Pos} (hc : ST X G c t) (ha : SE X G a fa) (hb : SE X G b fb) : SE X G (.IfExp c a b pos) (eIte t fa fb) := fun W tk => by
  refine peWeak (pe_ifExp (hc W tk) (ha W tk) (hb W tk)) fun σ H Q q => ?_
  refine (rd_bind (R := RBl) (k := fun c r h => match c with | true => fa r h | false => fb r h) q).imp ?_
  rintro c H1 ⟨φ1, η1, r1, x, S1, E1, R1, p1⟩
  subst R1
  cases x with
  | true => exact rd_at S1 E1 p1
  | false => exact rd_at S1 E1 p1
theorem s_andE {a b : Expr} {r : List Expr} {f g : EvE} {pos : Pos} (O : XOk X G) (h : SE X G a f) (t : SE X G (.BoolOp .And (b :: r) pos) g) : SE X G (.BoolOp .And (a :: b :: r) pos) (eAnd f g) := fun W tk => by
  refine peWeak (pe_andT (h W tk) (t W tk)) fun σ H Q q => ?_
  refine (rd_bind (R := RVl G) (k := fun v r h => match tru h v with | some c => (match c with | true => g r h | false => .ok v h) | none => .bad 231) q).imp ?_
  rintro v H1 ⟨φ1, η1, r1, x, S1, E1, R1, p1⟩
  cases ht : tru η1 x with
  | none => simp only [ht] at p1; exact p1.elim
  | some k =>
    simp only [ht] at p1
    refine ⟨k, by rw [O.K]; exact tru_rel S1 R1 ht, ?_⟩
    cases k with
    | true => exact rd_at S1 E1 p1
    | false => exact p1 φ1 H1 v Evo.refl S1 R1
theorem s_orE {a b : Expr} {r : List Expr} {f g : EvE} {pos : Pos} (O : XOk X G) (h : SE X G a f) (t : SE X G (.BoolOp .Or (b :: r) pos) g) : SE X G (.BoolOp .Or (a :: b :: r) pos) (eOr f g) := fun W tk => by
  refine peWeak (pe_orT (h W tk) (t W tk)) fun σ H Q q => ?_
  refine (rd_bind (R := RVl G) (k := fun v r h => match tru h v with | some c => (match c with | true => .ok v h | false => g r h) | none => .bad 232) q).imp ?_
  rintro v H1 ⟨φ1, η1, r1, x, S1, E1, R1, p1⟩
  cases ht : tru η1 x with
  | none => simp only [ht] at p1; exact p1.elim
  | some k =>
    simp only [ht] at p1
    refine ⟨k, by rw [O.K]; exact tru_rel S1 R1 ht, ?_⟩
    cases k with
    | false => exact rd_at S1 E1 p1
    | true => exact p1 φ1 H1 v Evo.refl S1 R1
theorem s_bool1 {op : BoolOp} {a : Expr} {f : EvE} {pos : Pos} (h : SE X G a f) : SE X G (.BoolOp op [a] pos) f := fun W tk => pe_one (h W tk)
theorem s_notE {a : Expr} {f : EvE} {pos : Pos} (O : XOk X G) (h : SE X G a f) : SE X G (.UnaryOp .Not a pos) (e1 pNot f) := fun W tk => by
  refine peWeak (pe_notT (h W tk)) fun σ H Q q => ?_
  refine (one q).imp ?_
  rintro v H1 ⟨φ1, η1, x, S1, R1, p1⟩
  unfold pNot nv at p1
  cases ht : tru η1 x with
  | none => simp only [ht] at p1; exact p1.elim
  | some k =>
    simp only [ht] at p1
    exact ⟨k, by rw [O.K]; exact tru_rel S1 R1 ht, p1 φ1 H1 _ Evo.refl S1 (.bl _)⟩

theorem isNon_rel {φ : List Addr} {H : Hp} {x : Vl} {v : V} {b : Bool} (r : RV G.K φ H x v) (h : isNon x = some b) : decide (v = .non) = b := by
  cases r <;> (cases h; rfl)
theorem s_isN {a : Expr} {f : EvE} {pos pos' : Pos} {j : Nat} (h : SE X G a f) : SE X G (.Compare a [.Is] [.Constant .none j pos'] pos) (e1 pIsN f) := fun W tk => by
  refine peWeak (pe_cmp (pc_isN (h W tk)) rfl) fun σ H Q q => (one q).imp ?_
  rintro v H1 ⟨φ1, η1, x, S1, R1, p1⟩
  unfold pIsN bv at p1
  cases ht : isNon x with
  | none => simp only [ht] at p1; exact p1.elim
  | some b =>
    simp only [ht] at p1
    rw [isNon_rel R1 ht]
    exact p1 φ1 H1 _ Evo.refl S1 (.bl b)
theorem s_notN {a : Expr} {f : EvE} {pos pos' : Pos} {j : Nat} (h : SE X G a f) : SE X G (.Compare a [.IsNot] [.Constant .none j pos'] pos) (e1 pNotN f) := fun W tk => by
  refine peWeak (pe_cmp (pc_notN (h W tk)) rfl) fun σ H Q q => (one q).imp ?_
  rintro v H1 ⟨φ1, η1, x, S1, R1, p1⟩
  unfold pNotN nv at p1
  cases ht : isNon x with
  | none => simp only [ht] at p1; exact p1.elim
  | some b =>
    simp only [ht] at p1
    rw [isNon_rel R1 ht]
    exact p1 φ1 H1 _ Evo.refl S1 (.bl _)
theorem t_isN {a : Expr} {f : EvE} {pos pos' : Pos} {j : Nat} (h : SE X G a f) : ST X G (.Compare a [.Is] [.Constant .none j pos'] pos) (tBl (e1 pIsN f)) := fun W tk => by
  refine ptWeak (pt_cmp (pc_isN (h W tk)) rfl) fun σ H Q q => (one (blTest q)).imp ?_
  rintro v H1 ⟨φ1, η1, x, S1, R1, p1⟩
  unfold pIsN bv at p1
  cases ht : isNon x with
  | none => simp only [ht] at p1; exact p1.elim
  | some b =>
    simp only [ht] at p1
    rw [isNon_rel R1 ht]
    exact p1 φ1 H1 _ Evo.refl S1 (.bl b)
theorem t_notN {a : Expr} {f : EvE} {pos pos' : Pos} {j : Nat} (h : SE X G a f) : ST X G (.Compare a [.IsNot] [.Constant .none j pos'] pos) (tBl (e1 pNotN f)) := fun W tk => by
  refine ptWeak (pt_cmp (pc_notN (h W tk)) rfl) fun σ H Q q => (one (blTest q)).imp ?_
  rintro v H1 ⟨φ1, η1, x, S1, R1, p1⟩
  unfold pNotN nv at p1
  cases ht : isNon x with
  | none => simp only [ht] at p1; exact p1.elim
  | some b =>
    simp only [ht] at p1
    rw [isNon_rel R1 ht]
    exact p1 φ1 H1 _ Evo.refl S1 (.bl _)

theorem line1000 {n : Nat} (h : n ≤ 10000) : n ≤ sizeLine := by
  have e : (10000 : Nat) ≤ sizeLine := by decide
  omega
theorem tupR {φ : List Addr} {H : Hp} {p : Addr} {o : Obj} {xs : List Vl} {vs : List V} {η : He} (S : Sim G φ η H) (hp : H p = none) (hd : o.dict = none) (R : RVs G.K φ H xs vs) : RV G.K φ (upd H p (.frz o (.tup vs))) (.tup xs) (.ref p) :=
  .tup (.inl ⟨o, upd_same, hd⟩) R.1 (R.evo (Evo.upd hp) S.trk).2
/-- a new tuple -/
def NewT (H : Hp) (vs : List V) (Q : VK) : Prop := ∀ (p : Addr) (o : Obj), H p = none → o.dict = none → Q (.ref p) (upd H p (.frz o (.tup vs)))
/-- how it comes about -/
theorem laidT {pins : List (Addr × Obj)} {s : Shared} {σ : L2.St} {H : Hp} {xs : List V} {us : List Value} {Q : VK} (I : Inv X pins σ H s) (r : Vals xs us) (z : xs.length ≤ sizeLine) (q : NewT H xs Q) :
    EP X pins σ Q (.ref s.heap.objs.size) { s with heap := s.heap.push { cls := .type "tuple", data := .seq us.toArray } } := by
  have hf : H s.heap.objs.size = none := I.hok.fresh (Nat.le_refl _)
  refine ⟨.ref s.heap.objs.size, upd H s.heap.objs.size (.frz { cls := .type "tuple", data := .seq us.toArray } (.tup xs)), I.laid (t' := s.toks) (fun b u e => Heap.get?_push_of_some _ e) (Nat.le_refl _) ?_, rfl, q _ _ hf rfl⟩
  exact ⟨Heap.get?_push_size _ rfl, z, us, r, ⟨_, Heap.get?_push_size _ rfl, rfl, _, rfl⟩⟩
theorem pe_tupF {es : List Expr} {t : TA} {x1 : Nat} {pos : Pos} (h : PA X es t) : PE X (.Tuple es x1 pos) (fun σ H Q => t σ H fun xs H1 => xs.length ≤ sizeLine ∧ NewT H1 xs Q) := by
  refine ⟨fun pins s σ H Q I hq => ?_⟩
  refine wpAny_Tuple_spliced (thn (h.run pos pins s σ H _ I hq) fun us s1 ⟨xs, H1, I1, r, z, q⟩ => ⟨by rw [← r.length]; exact z, laidT I1 r z q⟩)
theorem s_tup {es : List Expr} {f : EvQ} {k : Nat} {pos : Pos} (hl : es.length ≤ 10000) (h : SA X G es f) : SE X G (.Tuple es k pos) (eQ qTuple f) := fun W tk => by
  refine peWeak (pe_tupF (h W tk)) fun σ H Q q => ?_
  refine (rd_bind (R := RAn G es.length) (k := fun xs _ h => .ok (Vl.tup xs) h) q).imp ?_
  rintro vs H1 ⟨φ1, η1, r1, xs, S1, E1, ⟨R1, hk⟩, p1⟩
  exact ⟨line1000 (by rw [← R1.1, hk]; exact hl), fun p o hp hd => p1 φ1 _ (.ref p) (Evo.upd hp) (S1.upd hp) (tupR S1 hp hd R1)⟩
theorem s_tupS {es : List Expr} {f : EvQ} {k : Nat} {pos : Pos} (h : SAS X G es f) : SE X G (.Tuple es k pos) (eQ qTupS f) := fun W tk => by
  refine peWeak (pe_tupF (h W tk)) fun σ H Q q => ?_
  refine (rd_bind (R := RA G) (k := fun xs _ h => qTupS xs h) q).imp ?_
  rintro vs H1 ⟨φ1, η1, r1, xs, S1, E1, R1, p1⟩
  unfold qTupS at p1
  cases hb : Nat.blt xs.length 10000 with
  | false => simp only [hb] at p1; exact p1.elim
  | true =>
    simp only [hb] at p1
    have hlt : xs.length < 10000 := Nat.le_of_ble_eq_true hb
    exact ⟨line1000 (by rw [← R1.1]; omega), fun p o hp hd => p1 φ1 _ (.ref p) (Evo.upd hp) (S1.upd hp) (tupR S1 hp hd R1)⟩
theorem l_lst {es : List Expr} {f : EvQ} {pos : Pos} (hl : es.length ≤ 10000) (h : SA X G es f) : SL X G (.List es pos) f := fun W tk => by
  refine peWeak (pe_lst (h W tk)) fun σ H Q q => ?_
  obtain ⟨φ, η, r, S, E, p⟩ := q
  refine ⟨φ, η, r, S, E, ?_⟩
  cases hf : f r η with
  | bad n => rw [hf] at p; exact p
  | ex c v η' => rw [hf] at p; exact p
  | ok xs η' =>
    rw [hf] at p
    intro φ1 H1 vs e S1 ⟨R1, hk⟩
    refine ⟨line1000 (by rw [← R1.1, hk]; exact hl), fun a ha => p φ1 _ (.ref a) (e.trans (Evo.upd ha)) (S1.upd ha) ⟨a, vs, rfl, e.fresh S1.trk ha, upd_same, S1.notIn ha, R1.evo (Evo.upd ha) S1.trk⟩⟩
/-- a new list as a value -/
theorem s_newL {e : Expr} {f : EvQ} (h : SL X G e f) : SE X G e (eQ qList f) := fun W tk => by
  refine peWeak (h W tk) fun σ H Q q => ?_
  obtain ⟨φ, η, r, S, E, p⟩ := q
  refine ⟨φ, η, r, S, E, ?_⟩
  have p' : Post G (RVl G) (fun c d H' => W c d σ H') φ H ((f r η).bind fun xs h => qList xs h) Q := p
  cases hf : f r η with
  | bad n => rw [hf] at p'; exact p'
  | ex c v η' => rw [hf] at p'; exact p'
  | ok xs η' =>
    rw [hf] at p'
    rintro φ1 H1 v e1 S1 ⟨a, vs, rfl, h0, ha, hn, R1⟩
    have p2 : Post G (RVl G) (fun c d H' => W c d σ H') φ H (newL xs η') Q := p'
    unfold newL at p2
    rw [He.new_eq] at p2
    refine p2 (φ1 ++ [a]) H1 (.ref a) (e1.add h0) (S1.new hn ⟨vs, ha, R1⟩) (.loc ?_)
    rw [List.getElem?_append_right (by rw [S1.len]; exact Nat.le_refl _), S1.len, Nat.sub_self]; rfl
theorem q_of_l {e : Expr} {f : EvQ} (h : SL X G e f) : SQ X G e f := fun W tk => by
  refine peWeak (h W tk) fun σ H Q q => ?_
  obtain ⟨φ, η, r, S, E, p⟩ := q
  refine ⟨φ, η, r, S, E, ?_⟩
  cases hf : f r η with
  | bad n => rw [hf] at p; exact p
  | ex c v η' => rw [hf] at p; exact p
  | ok xs η' =>
    rw [hf] at p
    rintro φ1 H1 v e1 S1 ⟨a, vs, rfl, h0, ha, hn, R1⟩
    exact p φ1 H1 _ e1 S1 ⟨a, vs, rfl, .inl (SqL.of ha), R1⟩
theorem seqOf_rel {φ : List Addr} {η : He} {H : Hp} {x : Vl} {v : V} {xs : List Vl} (S : Sim G φ η H) (r : RV G.K φ H x v) (h : seqOf η x = some xs) : RQ G φ H xs v := by
  cases r with
  | non => cases h
  | bl b => cases h
  | int i => cases h
  | str s => cases h
  | tup hq hl hx => cases h; exact ⟨_, _, rfl, .inr hq, hl, hx⟩
  | fl hq hl hx => cases h; exact ⟨_, _, rfl, .inl hq.l, hl, hx⟩
  | loc hn =>
    rename_i m a
    obtain ⟨o, ho, ro⟩ := S.ob m a hn
    unfold seqOf at h
    simp only [ho] at h
    cases o with
    | lst xs =>
      obtain ⟨vs, hH, R⟩ := ro
      cases h
      exact ⟨a, vs, rfl, .inl (SqL.of hH), R⟩
    | dic lk es => cases h
    | ins c fs => cases h
theorem q_of {e : Expr} {f : EvE} (h : SE X G e f) : SQ X G e (qOf f) := fun W tk => by
  refine peWeak (h W tk) fun σ H Q q => ?_
  refine (rd_bind (R := RVl G) (k := fun v _ h => match seqOf h v with | some xs => .ok xs h | none => .bad 200) q).imp ?_
  rintro v H1 ⟨φ1, η1, r1, x, S1, E1, R1, p1⟩
  cases ht : seqOf η1 x with
  | none => simp only [ht] at p1; exact p1.elim
  | some xs =>
    simp only [ht] at p1
    exact p1 φ1 H1 v Evo.refl S1 (seqOf_rel S1 R1 ht)
end
end FP
end
section
namespace FP
open PySem PySem.Spec PyProof.Rows L2 PySem.SeqAt

section
variable {X : Cx} {G : Gd} {pins : List (Addr × Obj)} {σ : L2.St} {H : Hp} {s : Shared} {φ : List Addr} {η : He}

theorem allEq_self {f : Vl → Vl → Option Bool} (h : ∀ x b, f x x = some b → b = true) : ∀ (xs : List Vl) (b : Bool), allEq f xs xs = some b → b = true
  | [], b, e => by cases e; rfl
  | x :: xs, b, e => by
    have e' : (match f x x with | some c => (match c with | true => allEq f xs xs | false => (match allEq f xs xs with | some _ => some false | none => none)) | none => none) = some b := e
    cases hx : f x x with
    | none => rw [hx] at e'; cases e'
    | some c =>
      rw [hx] at e'
      have := h x c hx
      subst this
      exact allEq_self h xs b e'
theorem seq_self : ∀ s : List Nat, seq s s = true
  | [] => rfl
  | a :: as => by
    show (match Nat.beq a a with | true => seq as as | false => false) = true
    rw [show Nat.beq a a = true from Nat.beq_refl a]; exact seq_self as
theorem eqv_self {h : He} : ∀ (n : Nat) (x : Vl) (b : Bool), eqv h n x x = some b → b = true
  | 0, _, _, e => nomatch e
  | n + 1, x, b, e => by
    cases x with
    | non => cases e; rfl
    | bl p => cases e; cases p <;> rfl
    | int i => cases e; show ibeq i i = true; rw [ibeq_eq]; simp
    | str t => cases e; exact seq_self t
    | tup xs => exact allEq_self (fun x b => eqv_self n x b) xs b e
    | exc v => cases e
    | fl xs => cases e
    | loc q =>
      have e' : (match h.get q with | some (.lst xs) => (match h.get q with | some (.lst ys) => allEq (eqv h n) xs ys | _ => none) | _ => none) = some b := e
      cases hq : h.get q with
      | none => rw [hq] at e'; cases e'
      | some o =>
        rw [hq] at e'
        cases o with
        | lst xs => exact allEq_self (fun x b => eqv_self n x b) xs b e'
        | dic _ _ => cases e'
        | ins _ _ => cases e'
theorem seq_eq : ∀ (s t : List Nat), seq s t = decide (s = t)
  | [], [] => rfl
  | [], _ :: _ => rfl
  | _ :: _, [] => rfl
  | a :: as, b :: bs => by
    show (match Nat.beq a b with | true => seq as bs | false => false) = _
    cases h : Nat.beq a b with
    | true =>
      have e := Nat.eq_of_beq_eq_true h
      subst e
      show seq as bs = _
      rw [seq_eq as bs]
      by_cases q : as = bs
      · subst q; simp
      · rw [decide_eq_false q, decide_eq_false fun z => q (List.cons.inj z).2]
    | false =>
      have e : a ≠ b := fun z => by subst z; rw [Nat.beq_refl] at h; cases h
      rw [decide_eq_false fun z => e (List.cons.inj z).1]
theorem strOf_beq (s t : List Nat) : (strOf s == strOf t) = seq s t := by
  rw [seq_eq]
  by_cases h : s = t
  · subst h; simp
  · rw [decide_eq_false h]
    exact beq_eq_false_iff_ne.mpr fun e => h (strOf_inj e)

/-- a list that is tracked, where the program's own objects are not -/
theorem notK (I : Inv X pins σ H s) {a : Addr} {o : Obj} {u : HO} (hk : X.K.lookup a = some o) (h : H a = some u) : False := by
  have h1 := I.ok.mod.kin a o hk
  have h2 := (I.bs a o h1).2
  rw [h2] at h; cases h
theorem tupList (I : Inv X pins σ H s) {a : Addr} {vs ws : List V} (h : SqT X.K H a vs) (h' : SqL X.K H a ws) : False := by
  obtain ⟨its, _, ⟨o, e, c, _⟩, _⟩ := I.tuple h
  obtain ⟨its', _, ⟨o', _, e', c', _⟩, _⟩ := I.list h'
  rw [e] at e'; cases e'
  rw [c] at c'; injection c' with q; exact absurd q (by decide)
/-- one value, one datum -/
theorem RV.inj (O : XOk X G) (I : Inv X pins σ H s) (S : Sim G φ η H) {x : Vl} {v : V} (h : RV G.K φ H x v) : ∀ {y : Vl}, RV G.K φ H y v → x = y := by
  induction h with
  | non => intro y h; cases h; rfl
  | bl b => intro y h; cases h; rfl
  | int i => intro y h; cases h; rfl
  | str t =>
    intro y h
    generalize e : V.str (strOf t) = v at h
    cases h with
    | str t' => injection e with e; rw [strOf_inj e]
    | _ => cases e
  | tup hq hl hx ih =>
    rename_i xs a vs
    intro y h
    cases h with
    | tup hq' hl' hx' =>
      rename_i ys ws
      have e := I.tuple_inj (by rw [O.K]; exact hq.t) (by rw [O.K]; exact hq'.t)
      subst e
      congr 1
      refine List.ext_getElem? fun i => ?_
      by_cases hi : i < xs.length
      · have h1 : xs[i]? = some xs[i] := List.getElem?_eq_getElem hi
        have h2 : ys[i]? = some (ys[i]'(by omega)) := List.getElem?_eq_getElem _
        have h3 : vs[i]? = some (vs[i]'(by omega)) := List.getElem?_eq_getElem _
        rw [h1, h2, ih i _ _ h1 h3 (hx' i _ _ h2 h3)]
      · rw [List.getElem?_eq_none (by omega), List.getElem?_eq_none (by omega)]
    | fl hq' _ _ => exact (tupList I (by rw [O.K]; exact hq.t) (by rw [O.K]; exact hq'.l)).elim
    | loc hn =>
      obtain ⟨o, ho, r⟩ := S.ob _ a hn
      obtain ⟨u, hu, nt⟩ := r.ntup
      rcases hq with ⟨o', hq, _⟩ | ⟨o', its, n, hk, _⟩
      · rw [hq] at hu; cases hu; exact nt.elim
      · exact (notK I (by rw [O.K]; exact hk) hu).elim
  | fl hq hl hx ih =>
    rename_i xs a vs
    intro y h
    cases h with
    | fl hq' hl' hx' =>
      rename_i ys ws
      have e := I.list_inj (by rw [O.K]; exact hq.l) (by rw [O.K]; exact hq'.l)
      subst e
      congr 1
      refine List.ext_getElem? fun i => ?_
      by_cases hi : i < xs.length
      · have h1 : xs[i]? = some xs[i] := List.getElem?_eq_getElem hi
        have h2 : ys[i]? = some (ys[i]'(by omega)) := List.getElem?_eq_getElem _
        have h3 : vs[i]? = some (vs[i]'(by omega)) := List.getElem?_eq_getElem _
        rw [h1, h2, ih i _ _ h1 h3 (hx' i _ _ h2 h3)]
      · rw [List.getElem?_eq_none (by omega), List.getElem?_eq_none (by omega)]
    | tup hq' _ _ => exact (tupList I (by rw [O.K]; exact hq'.t) (by rw [O.K]; exact hq.l)).elim
    | loc hn =>
      obtain ⟨o, ho, r⟩ := S.ob _ a hn
      obtain ⟨u, hu, nt⟩ := r.ntup
      rcases hq with ⟨o', hq⟩ | ⟨o', its, n, hk, _⟩
      · rw [hq] at hu; cases hu; exact nt.elim
      · exact (notK I (by rw [O.K]; exact hk) hu).elim
  | loc hn =>
    rename_i m a
    intro y h
    cases h with
    | tup hq' _ _ =>
      obtain ⟨o, ho, r⟩ := S.ob _ a hn
      obtain ⟨u, hu, nt⟩ := r.ntup
      rcases hq' with ⟨o', hq, _⟩ | ⟨o', its, n, hk, _⟩
      · rw [hq] at hu; cases hu; exact nt.elim
      · exact (notK I (by rw [O.K]; exact hk) hu).elim
    | fl hq' _ _ =>
      obtain ⟨o, ho, r⟩ := S.ob _ a hn
      obtain ⟨u, hu, nt⟩ := r.ntup
      rcases hq' with ⟨o', hq⟩ | ⟨o', its, n, hk, _⟩
      · rw [hq] at hu; cases hu; exact nt.elim
      · exact (notK I (by rw [O.K]; exact hk) hu).elim
    | loc hn' =>
      rename_i m'
      have h1 : m < φ.length := (List.getElem?_eq_some_iff.mp hn).1
      have : m = m' := (List.getElem?_inj h1 S.nd).mp (hn.trans hn'.symm)
      rw [this]

theorem allEq_some {f : Vl → Vl → Option Bool} : ∀ {xs ys : List Vl} {b : Bool}, allEq f xs ys = some b →
    (∀ (i : Nat) (x y : Vl), xs[i]? = some x → ys[i]? = some y → ∃ c, f x y = some c) ∧ (b = true ↔ (xs.length = ys.length ∧ ∀ (i : Nat) (x y : Vl), xs[i]? = some x → ys[i]? = some y → f x y = some true))
  | [], [], b, h => by
    cases h
    exact ⟨fun i x y h => by simp at h, ⟨fun _ => ⟨rfl, fun i x y h => by simp at h⟩, fun _ => rfl⟩⟩
  | [], y :: ys, b, h => by
    cases h
    exact ⟨fun i x y h => by simp at h, ⟨fun h => (nomatch h), fun h => (by have := h.1; simp at this)⟩⟩
  | x :: xs, [], b, h => by
    cases h
    exact ⟨fun i x y _ h => by simp at h, ⟨fun h => (nomatch h), fun h => (by have := h.1; simp at this)⟩⟩
  | x :: xs, y :: ys, b, h => by
    have h' : (match f x y with | some c => (match c with | true => allEq f xs ys | false => (match allEq f xs ys with | some _ => some false | none => none)) | none => none) = some b := h
    cases hf : f x y with
    | none => rw [hf] at h'; cases h'
    | some c =>
      rw [hf] at h'
      cases c with
      | true =>
        have h2 : allEq f xs ys = some b := h'
        obtain ⟨a1, a2⟩ := allEq_some h2
        refine ⟨fun i u v hu hv => ?_, ⟨fun e => ⟨by simp [(a2.mp e).1], fun i u v hu hv => ?_⟩, fun e => a2.mpr ⟨by simpa using e.1, fun i u v hu hv => e.2 (i + 1) u v (by simpa using hu) (by simpa using hv)⟩⟩⟩
        · cases i with
          | zero => simp at hu hv; subst hu; subst hv; exact ⟨_, hf⟩
          | succ i => exact a1 i u v (by simpa using hu) (by simpa using hv)
        · cases i with
          | zero => simp at hu hv; subst hu; subst hv; exact hf
          | succ i => exact (a2.mp e).2 i u v (by simpa using hu) (by simpa using hv)
      | false =>
        cases hr : allEq f xs ys with
        | none => simp only [hr] at h'; cases h'
        | some d =>
          simp only [hr] at h'
          cases h'
          obtain ⟨a1, a2⟩ := allEq_some hr
          refine ⟨fun i u v hu hv => ?_, ⟨fun e => (nomatch e), fun e => ?_⟩⟩
          · cases i with
            | zero => simp at hu hv; subst hu; subst hv; exact ⟨_, hf⟩
            | succ i => exact a1 i u v (by simpa using hu) (by simpa using hv)
          · have := e.2 0 x y rfl rfl
            rw [hf] at this; cases this
/-- how what is related stands in the heap -/
theorem tupAt (O : XOk X G) (I : Inv X pins σ H s) {a : Addr} {vs : List V} (h : SqT G.K H a vs) : ∃ its : List Value, Vals vs its ∧ s.heap.IsTuple a its.toArray := by
  obtain ⟨its, r, ht, _⟩ := I.tuple (by rw [O.K]; exact h)
  exact ⟨its, r, ht⟩
theorem lstAt (O : XOk X G) (I : Inv X pins σ H s) {a : Addr} {vs : List V} (h : SqL G.K H a vs) : ∃ its : List Value, Vals vs its ∧ s.heap.IsList a its.toArray := by
  obtain ⟨its, r, ht, _⟩ := I.list (by rw [O.K]; exact h)
  exact ⟨its, r, ht.isList⟩
theorem valAt {vs : List V} {its : List Value} (r : Vals vs its) {j : Nat} (h : j < its.toArray.size) : ∃ v, vs[j]? = some v ∧ RelV v its.toArray[j] := by
  have hl := r.length
  have hj : j < vs.length := by simp at h; omega
  obtain ⟨u, hu, ru⟩ := r.get (List.getElem?_eq_getElem hj)
  refine ⟨_, List.getElem?_eq_getElem hj, ?_⟩
  have : its.toArray[j] = u := by
    have h2 : its[j]? = some its.toArray[j] := by simp at h; simp [h]
    rw [hu] at h2; exact (Option.some.inj h2).symm
  rw [this]; exact ru
/-- what a reading of equality must find -/
def EqRel (A : Around) (s : Shared) (u w : Value) (b : Bool) : Prop := RcAt A s u w b ∧ EqAt A s u w b
theorem seqs_eq (O : XOk X G) {A : Around} {f : Vl → Vl → Option Bool} {xs ys : List Vl} {vs ws : List V} {i1 i2 : List Value} {b : Bool} (r1 : Vals vs i1) (r2 : Vals ws i2) (h1 : RVs G.K φ H xs vs) (h2 : RVs G.K φ H ys ws)
    (h : allEq f xs ys = some b) (ih : ∀ x y v w u1 u2 c, f x y = some c → RV G.K φ H x v → RV G.K φ H y w → RelV v u1 → RelV w u2 → EqAt A s u1 u2 c) :
    ∃ e : Nat → Bool, (∀ j (h1 : j < i1.toArray.size) (h2 : j < i2.toArray.size), EqAt A s i1.toArray[j] i2.toArray[j] (e j)) ∧ (((List.range (min i1.toArray.size i2.toArray.size)).all e && i1.toArray.size == i2.toArray.size) = b) := by
  obtain ⟨a1, a2⟩ := allEq_some h
  have l1 := r1.length
  have l2 := r2.length
  have k1 := h1.1
  have k2 := h2.1
  let e : Nat → Bool := fun j => match xs[j]?, ys[j]? with | some x, some y => (f x y == some true) | _, _ => false
  have he : ∀ j x y, xs[j]? = some x → ys[j]? = some y → e j = (f x y == some true) := fun j x y hx hy => by show (match xs[j]?, ys[j]? with | some x, some y => (f x y == some true) | _, _ => false) = _; rw [hx, hy]
  refine ⟨e, fun j hj1 hj2 => ?_, ?_⟩
  · obtain ⟨v, hv, rv⟩ := valAt r1 hj1
    obtain ⟨w, hw, rw'⟩ := valAt r2 hj2
    obtain ⟨x, hx, rx⟩ := h1.getR hv
    obtain ⟨y, hy, ry⟩ := h2.getR hw
    obtain ⟨c, hc⟩ := a1 j x y hx hy
    rw [he j x y hx hy, hc]
    have := ih x y v w _ _ c hc rx ry rv rw'
    cases c <;> exact this
  · simp only [List.size_toArray]
    by_cases hb : b = true
    · obtain ⟨q1, q2⟩ := a2.mp hb
      rw [hb]
      have e1 : i1.length = i2.length := by omega
      simp only [e1, beq_self_eq_true, Bool.and_true, Nat.min_self, List.all_eq_true, List.mem_range]
      intro j hj
      have hx : xs[j]? = some (xs[j]'(by omega)) := List.getElem?_eq_getElem _
      have hy : ys[j]? = some (ys[j]'(by omega)) := List.getElem?_eq_getElem _
      rw [he j _ _ hx hy, q2 j _ _ hx hy]; rfl
    · have hb' : b = false := by cases b <;> simp_all
      rw [hb']
      cases hq : ((List.range (min i1.length i2.length)).all e && i1.length == i2.length) with
      | false => rfl
      | true =>
        exfalso
        apply hb
        simp only [Bool.and_eq_true, List.all_eq_true, List.mem_range, beq_iff_eq] at hq
        refine a2.mpr ⟨by omega, fun i x y hx hy => ?_⟩
        have hi : i < xs.length := (List.getElem?_eq_some_iff.mp hx).1
        have hi2 : i < ys.length := (List.getElem?_eq_some_iff.mp hy).1
        have := hq.1 i (by omega)
        rw [he i x y hx hy] at this
        exact eq_of_beq this

theorem RV.notRef {x : Vl} {v : V} (h : RV G.K φ H x v) : (∃ i, x = .int i ∧ v = .int i) ∨ (∃ b, x = .bl b ∧ v = .bl b) ∨ (∃ t, x = .str t ∧ v = .str (strOf t)) ∨ (x = .non ∧ v = .non) ∨ (∃ a, v = .ref a) := by
  cases h with
  | non => exact .inr (.inr (.inr (.inl ⟨rfl, rfl⟩)))
  | bl b => exact .inr (.inl ⟨b, rfl, rfl⟩)
  | int i => exact .inl ⟨i, rfl, rfl⟩
  | str t => exact .inr (.inr (.inl ⟨t, rfl, rfl⟩))
  | tup _ _ _ => exact .inr (.inr (.inr (.inr ⟨_, rfl⟩)))
  | fl _ _ _ => exact .inr (.inr (.inr (.inr ⟨_, rfl⟩)))
  | loc _ => exact .inr (.inr (.inr (.inr ⟨_, rfl⟩)))
theorem beq_int (i j : Int) : (i == j) = ibeq i j := by rw [ibeq_eq]; rfl
theorem b2i_if (b : Bool) : (if b = true then (1 : Int) else 0) = b2i b := by cases b <;> rfl
/-- a list of the heap: what stands there -/
theorem locList (S : Sim G φ η H) {q : Nat} {a : Addr} {xs : List Vl} (hn : φ[q]? = some a) (h : η.get q = some (.lst xs)) : ∃ vs, H a = some (.lst vs) ∧ RVs G.K φ H xs vs := by
  obtain ⟨o, ho, r⟩ := S.ob q a hn
  rw [h] at ho; cases ho
  exact r
def eqLoc (η : He) (n : Nat) (xs : List Vl) (y : Vl) : Option Bool := match y with
  | .loc q => match η.get q with
    | some (.lst ys) => allEq (eqv η n) xs ys
    | _ => none
  | .exc _ => none
  | .fl _ => none
  | _ => some false
def eqLoc' (η : He) (n : Nat) (y : Vl) (o : Option Ob) : Option Bool := match o with
  | some (.lst xs) => eqLoc η n xs y
  | _ => none
theorem eqv_loc {η : He} {n q : Nat} {y : Vl} : eqv η (n + 1) (.loc q) y = eqLoc' η n y (η.get q) := by
  cases y <;> rfl
theorem eqv_rel (O : XOk X G) (I : Inv X pins σ H s) (S : Sim G φ η H) : ∀ (n : Nat) (A : Around), A.units + n < cLine → ∀ (x y : Vl) (v w : V) (u1 u2 : Value) (b : Bool), eqv η n x y = some b → RV G.K φ H x v → RV G.K φ H y w → RelV v u1 → RelV w u2 → EqRel A s u1 u2 b
  | 0, _, _, _, _, _, _, _, _, _, h, _, _, _, _ => nomatch h
  | n + 1, A, hu, x, y, v, w, u1, u2, b, h, rx, ry, r1, r2 => by
    have hu0 : A.units < cLine := by omega
    have hu1 : A.in1.units + n < cLine := by show A.units + 1 + n < cLine; omega
    have ih := fun x y v w u1 u2 c (h : eqv η n x y = some c) (rx : RV G.K φ H x v) (ry : RV G.K φ H y w) r1 r2 => (eqv_rel O I S n A.in1 hu1 x y v w u1 u2 c h rx ry r1 r2).2
    -- two refs that are told apart by their objects
    have refs : ∀ {a c : Addr} {k : Bool}, u1 = .ref a → u2 = .ref c → RcAt A s u1 u2 k → (a = c → k = true) → EqRel A s u1 u2 k := fun {a c k} e1 e2 hr hk => by
      subst e1; subst e2
      refine ⟨hr, ?_⟩
      by_cases e : a = c
      · subst e; rw [hk rfl]; exact EqAt.same _
      · exact EqAt.of_refs e hr
    cases rx with
    | non =>
      cases (show u1 = Value.none from r1)
      cases ry with
      | non => cases (show u2 = Value.none from r2); cases h; exact ⟨RcAt.none_none, EqAt.same _⟩
      | bl p => cases (show u2 = Value.bool p from r2); cases h; exact ⟨RcAt.none_bool p, EqAt.none_bool p⟩
      | int j => obtain ⟨t, rfl⟩ := (show ∃ t, u2 = Value.int j t from r2); cases h; exact ⟨RcAt.none_int j t, EqAt.none_int j t⟩
      | str z => obtain ⟨t, rfl⟩ := (show ∃ t, u2 = Value.str (strOf z) t from r2); cases h; exact ⟨RcAt.none_str _ t, EqAt.none_str _ t⟩
      | tup hq _ _ =>
        cases (show u2 = Value.ref _ from r2); cases h
        obtain ⟨its, _, ht⟩ := tupAt O I hq.t
        exact ⟨RcAt.none_tuple ht hu0, EqAt.none_tuple ht hu0⟩
      | fl _ _ _ => cases h
      | loc hn =>
        cases (show u2 = Value.ref _ from r2)
        rename_i q a
        have h' : (match η.get q with | some (.lst _) => some false | _ => none) = some b := h
        cases hg : η.get q with
        | none => rw [hg] at h'; cases h'
        | some o =>
          rw [hg] at h'
          cases o with
          | lst ys =>
            cases h'
            obtain ⟨ws, hH, _⟩ := locList S hn hg
            obtain ⟨its, _, ht⟩ := lstAt O I (SqL.of (K := G.K) hH)
            exact ⟨RcAt.none_list ht hu0, EqAt.none_list ht hu0⟩
          | dic _ _ => cases h'
          | ins _ _ => cases h'
    | bl p =>
      cases (show u1 = Value.bool p from r1)
      cases ry with
      | non => cases (show u2 = Value.none from r2); cases h; exact ⟨RcAt.bool_none p, EqAt.bool_none p⟩
      | bl q => cases (show u2 = Value.bool q from r2); cases h; exact ⟨RcAt.bool_bool p q, EqAt.bool_bool p q⟩
      | int j =>
        obtain ⟨t, rfl⟩ := (show ∃ t, u2 = Value.int j t from r2); cases h
        have e : ((if p = true then (1 : Int) else 0) == j) = ibeq (b2i p) j := by rw [b2i_if, beq_int]
        exact ⟨e ▸ RcAt.bool_int p j t, e ▸ EqAt.bool_int p j t⟩
      | str z => obtain ⟨t, rfl⟩ := (show ∃ t, u2 = Value.str (strOf z) t from r2); cases h; exact ⟨RcAt.bool_str p _ t, EqAt.bool_str p _ t⟩
      | tup hq _ _ =>
        cases (show u2 = Value.ref _ from r2); cases h
        obtain ⟨its, _, ht⟩ := tupAt O I hq.t
        exact ⟨RcAt.bool_tuple p ht hu0, EqAt.bool_tuple p ht hu0⟩
      | fl _ _ _ => cases h
      | loc hn =>
        cases (show u2 = Value.ref _ from r2)
        rename_i q a
        have h' : (match η.get q with | some (.lst _) => some false | _ => none) = some b := h
        cases hg : η.get q with
        | none => rw [hg] at h'; cases h'
        | some o =>
          rw [hg] at h'
          cases o with
          | lst ys =>
            cases h'
            obtain ⟨ws, hH, _⟩ := locList S hn hg
            obtain ⟨its, _, ht⟩ := lstAt O I (SqL.of (K := G.K) hH)
            exact ⟨RcAt.bool_list p ht hu0, EqAt.bool_list p ht hu0⟩
          | dic _ _ => cases h'
          | ins _ _ => cases h'
    | int i =>
      obtain ⟨t0, rfl⟩ := (show ∃ t, u1 = Value.int i t from r1)
      cases ry with
      | non => cases (show u2 = Value.none from r2); cases h; exact ⟨RcAt.int_none i t0, EqAt.int_none i t0⟩
      | bl q =>
        cases (show u2 = Value.bool q from r2); cases h
        have e : (i == (if q = true then (1 : Int) else 0)) = ibeq i (b2i q) := by rw [b2i_if, beq_int]
        exact ⟨e ▸ RcAt.int_bool i t0 q, e ▸ EqAt.int_bool i t0 q⟩
      | int j =>
        obtain ⟨t, rfl⟩ := (show ∃ t, u2 = Value.int j t from r2); cases h
        exact ⟨beq_int i j ▸ RcAt.int_int i t0 j t, beq_int i j ▸ EqAt.int_int i t0 j t⟩
      | str z => obtain ⟨t, rfl⟩ := (show ∃ t, u2 = Value.str (strOf z) t from r2); cases h; exact ⟨RcAt.int_str i t0 _ t, EqAt.int_str i t0 _ t⟩
      | tup hq _ _ =>
        cases (show u2 = Value.ref _ from r2); cases h
        obtain ⟨its, _, ht⟩ := tupAt O I hq.t
        exact ⟨RcAt.int_tuple i t0 ht hu0, EqAt.int_tuple i t0 ht hu0⟩
      | fl _ _ _ => cases h
      | loc hn =>
        cases (show u2 = Value.ref _ from r2)
        rename_i q a
        have h' : (match η.get q with | some (.lst _) => some false | _ => none) = some b := h
        cases hg : η.get q with
        | none => rw [hg] at h'; cases h'
        | some o =>
          rw [hg] at h'
          cases o with
          | lst ys =>
            cases h'
            obtain ⟨ws, hH, _⟩ := locList S hn hg
            obtain ⟨its, _, ht⟩ := lstAt O I (SqL.of (K := G.K) hH)
            exact ⟨RcAt.int_list i t0 ht hu0, EqAt.int_list i t0 ht hu0⟩
          | dic _ _ => cases h'
          | ins _ _ => cases h'
    | str z0 =>
      obtain ⟨t0, rfl⟩ := (show ∃ t, u1 = Value.str (strOf z0) t from r1)
      cases ry with
      | non => cases (show u2 = Value.none from r2); cases h; exact ⟨RcAt.str_none _ t0, EqAt.str_none _ t0⟩
      | bl q => cases (show u2 = Value.bool q from r2); cases h; exact ⟨RcAt.str_bool _ t0 q, EqAt.str_bool _ t0 q⟩
      | int j => obtain ⟨t, rfl⟩ := (show ∃ t, u2 = Value.int j t from r2); cases h; exact ⟨RcAt.str_int _ t0 j t, EqAt.str_int _ t0 j t⟩
      | str z =>
        obtain ⟨t, rfl⟩ := (show ∃ t, u2 = Value.str (strOf z) t from r2); cases h
        exact ⟨strOf_beq z0 z ▸ RcAt.str_str _ t0 _ t, strOf_beq z0 z ▸ EqAt.str_str _ t0 _ t⟩
      | tup hq _ _ =>
        cases (show u2 = Value.ref _ from r2); cases h
        obtain ⟨its, _, ht⟩ := tupAt O I hq.t
        exact ⟨RcAt.str_tuple _ t0 ht hu0, EqAt.str_tuple _ t0 ht hu0⟩
      | fl _ _ _ => cases h
      | loc hn =>
        cases (show u2 = Value.ref _ from r2)
        rename_i q a
        have h' : (match η.get q with | some (.lst _) => some false | _ => none) = some b := h
        cases hg : η.get q with
        | none => rw [hg] at h'; cases h'
        | some o =>
          rw [hg] at h'
          cases o with
          | lst ys =>
            cases h'
            obtain ⟨ws, hH, _⟩ := locList S hn hg
            obtain ⟨its, _, ht⟩ := lstAt O I (SqL.of (K := G.K) hH)
            exact ⟨RcAt.str_list _ t0 ht hu0, EqAt.str_list _ t0 ht hu0⟩
          | dic _ _ => cases h'
          | ins _ _ => cases h'
    | fl _ _ _ => cases h
    | tup hq hl hx =>
      rename_i xs a vs
      cases (show u1 = Value.ref _ from r1)
      obtain ⟨its, rv, ht⟩ := tupAt O I hq.t
      cases ry with
      | non => cases (show u2 = Value.none from r2); cases h; exact ⟨RcAt.tuple_none ht hu0, EqAt.tuple_none ht hu0⟩
      | bl q => cases (show u2 = Value.bool q from r2); cases h; exact ⟨RcAt.tuple_bool q ht hu0, EqAt.tuple_bool q ht hu0⟩
      | int j => obtain ⟨t, rfl⟩ := (show ∃ t, u2 = Value.int j t from r2); cases h; exact ⟨RcAt.tuple_int j t ht hu0, EqAt.tuple_int j t ht hu0⟩
      | str z => obtain ⟨t, rfl⟩ := (show ∃ t, u2 = Value.str (strOf z) t from r2); cases h; exact ⟨RcAt.tuple_str _ t ht hu0, EqAt.tuple_str _ t ht hu0⟩
      | tup hq' hl' hx' =>
        rename_i ys c ws
        cases (show u2 = Value.ref _ from r2)
        obtain ⟨its2, rv2, ht2⟩ := tupAt O I hq'.t
        have h' : allEq (eqv η n) xs ys = some b := h
        obtain ⟨e, he, hb⟩ := seqs_eq O (A := A.in1) rv rv2 ⟨hl, hx⟩ ⟨hl', hx'⟩ h' ih
        refine refs rfl rfl (hb ▸ RcAt.tuples ht ht2 hu0 he) fun e => ?_
        subst e
        have e2 := RV.inj O I S (RV.tup hq hl hx) (RV.tup hq' hl' hx')
        injection e2 with e2
        subst e2
        exact allEq_self (fun x b => eqv_self n x b) xs b h'
      | fl _ _ _ => cases h
      | loc hn =>
        cases (show u2 = Value.ref _ from r2)
        rename_i q c
        have h' : (match η.get q with | some (.lst _) => some false | _ => none) = some b := h
        cases hg : η.get q with
        | none => rw [hg] at h'; cases h'
        | some o =>
          rw [hg] at h'
          cases o with
          | lst ys =>
            cases h'
            obtain ⟨ws, hH, _⟩ := locList S hn hg
            obtain ⟨its2, _, ht2⟩ := lstAt O I (SqL.of (K := G.K) hH)
            exact ⟨RcAt.tuple_list ht ht2 hu0, EqAt.tuple_list ht ht2 hu0⟩
          | dic _ _ => cases h'
          | ins _ _ => cases h'
    | loc hn =>
      rename_i q a
      cases (show u1 = Value.ref _ from r1)
      rw [eqv_loc] at h
      cases hg : η.get q with
      | none => rw [hg] at h; cases h
      | some o =>
        rw [hg] at h
        have h' := h
        cases o with
        | dic _ _ => cases h'
        | ins _ _ => cases h'
        | lst xs =>
          obtain ⟨vs, hH, R1⟩ := locList S hn hg
          obtain ⟨its, rv, ht⟩ := lstAt O I (SqL.of (K := G.K) hH)
          cases ry with
          | non => cases (show u2 = Value.none from r2); cases h'; exact ⟨RcAt.list_none ht hu0, EqAt.list_none ht hu0⟩
          | bl q => cases (show u2 = Value.bool q from r2); cases h'; exact ⟨RcAt.list_bool q ht hu0, EqAt.list_bool q ht hu0⟩
          | int j => obtain ⟨t, rfl⟩ := (show ∃ t, u2 = Value.int j t from r2); cases h'; exact ⟨RcAt.list_int j t ht hu0, EqAt.list_int j t ht hu0⟩
          | str z => obtain ⟨t, rfl⟩ := (show ∃ t, u2 = Value.str (strOf z) t from r2); cases h'; exact ⟨RcAt.list_str _ t ht hu0, EqAt.list_str _ t ht hu0⟩
          | tup hq' _ _ =>
            cases (show u2 = Value.ref _ from r2); cases h'
            obtain ⟨its2, _, ht2⟩ := tupAt O I hq'.t
            exact ⟨RcAt.list_tuple ht ht2 hu0, EqAt.list_tuple ht ht2 hu0⟩
          | fl _ _ _ => cases h'
          | loc hn' =>
            rename_i q' c
            cases (show u2 = Value.ref _ from r2)
            have h2 : (match η.get q' with | some (.lst ys) => allEq (eqv η n) xs ys | _ => none) = some b := h'
            cases hg' : η.get q' with
            | none => rw [hg'] at h2; cases h2
            | some o' =>
              rw [hg'] at h2
              cases o' with
              | dic _ _ => cases h2
              | ins _ _ => cases h2
              | lst ys =>
                have h3 : allEq (eqv η n) xs ys = some b := h2
                obtain ⟨ws, hH', R2⟩ := locList S hn' hg'
                obtain ⟨its2, rv2, ht2⟩ := lstAt O I (SqL.of (K := G.K) hH')
                obtain ⟨e, he, hb⟩ := seqs_eq O (A := A.in1) rv rv2 R1 R2 h3 ih
                refine refs rfl rfl ?_ fun e => ?_
                · by_cases hz : its.toArray.size = its2.toArray.size
                  · have := RcAt.lists ht ht2 hz hu0 he
                    have e2 : (List.range its.toArray.size).all e = b := by
                      rw [← hb, hz, Nat.min_self]; simp
                    rw [e2] at this; exact this
                  · have e2 : b = false := by
                      rw [← hb]
                      have : (its.toArray.size == its2.toArray.size) = false := beq_eq_false_iff_ne.mpr hz
                      rw [this, Bool.and_false]
                    rw [e2]
                    exact RcAt.lists_lengths ht ht2 (by simpa using hz) hu0
                · subst e
                  rw [hH] at hH'
                  cases hH'
                  have hq1 : q < φ.length := (List.getElem?_eq_some_iff.mp hn).1
                  have : q = q' := (List.getElem?_inj hq1 S.nd).mp (hn.trans hn'.symm)
                  subst this
                  rw [hg] at hg'; cases hg'
                  exact allEq_self (fun x b => eqv_self n x b) xs b h3
end
end FP
end
section
namespace FP
open PySem PySem.Spec PyProof.Rows L2 PySem.SeqAt

section
variable {X : Cx} {G : Gd} {pins : List (Addr × Obj)} {σ : L2.St} {H : Hp} {s : Shared} {φ : List Addr} {η : He}

theorem neqv_rel (O : XOk X G) (I : Inv X pins σ H s) (S : Sim G φ η H) : ∀ (n : Nat) (A : Around), A.units + n < cLine → ∀ (x y : Vl) (v w : V) (u1 u2 : Value) (b : Bool), eqv η n x y = some b → RV G.K φ H x v → RV G.K φ H y w → RelV v u1 → RelV w u2 → RcNeAt A s u1 u2 (!b)
  | 0, _, _, _, _, _, _, _, _, _, h, _, _, _, _ => nomatch h
  | n + 1, A, hu, x, y, v, w, u1, u2, b, h, rx, ry, r1, r2 => by
    have hu0 : A.units < cLine := by omega
    have hu1 : A.in1.units + n < cLine := by show A.units + 1 + n < cLine; omega
    have ih := fun x y v w u1 u2 c (h : eqv η n x y = some c) (rx : RV G.K φ H x v) (ry : RV G.K φ H y w) r1 r2 => (eqv_rel O I S n A.in1 hu1 x y v w u1 u2 c h rx ry r1 r2).2
    cases rx with
    | non =>
      cases (show u1 = Value.none from r1)
      cases ry with
      | non => cases (show u2 = Value.none from r2); cases h; exact RcNeAt.none_none
      | bl p => cases (show u2 = Value.bool p from r2); cases h; exact RcNeAt.none_bool p
      | int j => obtain ⟨t, rfl⟩ := (show ∃ t, u2 = Value.int j t from r2); cases h; exact RcNeAt.none_int j t
      | str z => obtain ⟨t, rfl⟩ := (show ∃ t, u2 = Value.str (strOf z) t from r2); cases h; exact RcNeAt.none_str _ t
      | tup hq _ _ =>
        cases (show u2 = Value.ref _ from r2); cases h
        obtain ⟨its, _, ht⟩ := tupAt O I hq.t
        exact RcNeAt.none_tuple ht hu0
      | fl _ _ _ => cases h
      | loc hn =>
        cases (show u2 = Value.ref _ from r2)
        rename_i q a
        have h' : (match η.get q with | some (.lst _) => some false | _ => none) = some b := h
        cases hg : η.get q with
        | none => rw [hg] at h'; cases h'
        | some o =>
          rw [hg] at h'
          cases o with
          | lst ys =>
            cases h'
            obtain ⟨ws, hH, _⟩ := locList S hn hg
            obtain ⟨its, _, ht⟩ := lstAt O I (SqL.of (K := G.K) hH)
            exact RcNeAt.none_list ht hu0
          | dic _ _ => cases h'
          | ins _ _ => cases h'
    | bl p =>
      cases (show u1 = Value.bool p from r1)
      cases ry with
      | non => cases (show u2 = Value.none from r2); cases h; exact RcNeAt.bool_none p
      | bl q => cases (show u2 = Value.bool q from r2); cases h; exact RcNeAt.bool_bool p q
      | int j =>
        obtain ⟨t, rfl⟩ := (show ∃ t, u2 = Value.int j t from r2); cases h
        have e : ((if p = true then (1 : Int) else 0) == j) = ibeq (b2i p) j := by rw [b2i_if, beq_int]
        exact e ▸ RcNeAt.bool_int p j t
      | str z => obtain ⟨t, rfl⟩ := (show ∃ t, u2 = Value.str (strOf z) t from r2); cases h; exact RcNeAt.bool_str p _ t
      | tup hq _ _ =>
        cases (show u2 = Value.ref _ from r2); cases h
        obtain ⟨its, _, ht⟩ := tupAt O I hq.t
        exact RcNeAt.bool_tuple p ht hu0
      | fl _ _ _ => cases h
      | loc hn =>
        cases (show u2 = Value.ref _ from r2)
        rename_i q a
        have h' : (match η.get q with | some (.lst _) => some false | _ => none) = some b := h
        cases hg : η.get q with
        | none => rw [hg] at h'; cases h'
        | some o =>
          rw [hg] at h'
          cases o with
          | lst ys =>
            cases h'
            obtain ⟨ws, hH, _⟩ := locList S hn hg
            obtain ⟨its, _, ht⟩ := lstAt O I (SqL.of (K := G.K) hH)
            exact RcNeAt.bool_list p ht hu0
          | dic _ _ => cases h'
          | ins _ _ => cases h'
    | int i =>
      obtain ⟨t0, rfl⟩ := (show ∃ t, u1 = Value.int i t from r1)
      cases ry with
      | non => cases (show u2 = Value.none from r2); cases h; exact RcNeAt.int_none i t0
      | bl q =>
        cases (show u2 = Value.bool q from r2); cases h
        have e : (i == (if q = true then (1 : Int) else 0)) = ibeq i (b2i q) := by rw [b2i_if, beq_int]
        exact e ▸ RcNeAt.int_bool i t0 q
      | int j =>
        obtain ⟨t, rfl⟩ := (show ∃ t, u2 = Value.int j t from r2); cases h
        exact beq_int i j ▸ RcNeAt.int_int i t0 j t
      | str z => obtain ⟨t, rfl⟩ := (show ∃ t, u2 = Value.str (strOf z) t from r2); cases h; exact RcNeAt.int_str i t0 _ t
      | tup hq _ _ =>
        cases (show u2 = Value.ref _ from r2); cases h
        obtain ⟨its, _, ht⟩ := tupAt O I hq.t
        exact RcNeAt.int_tuple i t0 ht hu0
      | fl _ _ _ => cases h
      | loc hn =>
        cases (show u2 = Value.ref _ from r2)
        rename_i q a
        have h' : (match η.get q with | some (.lst _) => some false | _ => none) = some b := h
        cases hg : η.get q with
        | none => rw [hg] at h'; cases h'
        | some o =>
          rw [hg] at h'
          cases o with
          | lst ys =>
            cases h'
            obtain ⟨ws, hH, _⟩ := locList S hn hg
            obtain ⟨its, _, ht⟩ := lstAt O I (SqL.of (K := G.K) hH)
            exact RcNeAt.int_list i t0 ht hu0
          | dic _ _ => cases h'
          | ins _ _ => cases h'
    | str z0 =>
      obtain ⟨t0, rfl⟩ := (show ∃ t, u1 = Value.str (strOf z0) t from r1)
      cases ry with
      | non => cases (show u2 = Value.none from r2); cases h; exact RcNeAt.str_none _ t0
      | bl q => cases (show u2 = Value.bool q from r2); cases h; exact RcNeAt.str_bool _ t0 q
      | int j => obtain ⟨t, rfl⟩ := (show ∃ t, u2 = Value.int j t from r2); cases h; exact RcNeAt.str_int _ t0 j t
      | str z =>
        obtain ⟨t, rfl⟩ := (show ∃ t, u2 = Value.str (strOf z) t from r2); cases h
        exact strOf_beq z0 z ▸ RcNeAt.str_str _ t0 _ t
      | tup hq _ _ =>
        cases (show u2 = Value.ref _ from r2); cases h
        obtain ⟨its, _, ht⟩ := tupAt O I hq.t
        exact RcNeAt.str_tuple _ t0 ht hu0
      | fl _ _ _ => cases h
      | loc hn =>
        cases (show u2 = Value.ref _ from r2)
        rename_i q a
        have h' : (match η.get q with | some (.lst _) => some false | _ => none) = some b := h
        cases hg : η.get q with
        | none => rw [hg] at h'; cases h'
        | some o =>
          rw [hg] at h'
          cases o with
          | lst ys =>
            cases h'
            obtain ⟨ws, hH, _⟩ := locList S hn hg
            obtain ⟨its, _, ht⟩ := lstAt O I (SqL.of (K := G.K) hH)
            exact RcNeAt.str_list _ t0 ht hu0
          | dic _ _ => cases h'
          | ins _ _ => cases h'
    | fl _ _ _ => cases h
    | tup hq hl hx =>
      rename_i xs a vs
      cases (show u1 = Value.ref _ from r1)
      obtain ⟨its, rv, ht⟩ := tupAt O I hq.t
      cases ry with
      | non => cases (show u2 = Value.none from r2); cases h; exact RcNeAt.tuple_none ht hu0
      | bl q => cases (show u2 = Value.bool q from r2); cases h; exact RcNeAt.tuple_bool q ht hu0
      | int j => obtain ⟨t, rfl⟩ := (show ∃ t, u2 = Value.int j t from r2); cases h; exact RcNeAt.tuple_int j t ht hu0
      | str z => obtain ⟨t, rfl⟩ := (show ∃ t, u2 = Value.str (strOf z) t from r2); cases h; exact RcNeAt.tuple_str _ t ht hu0
      | tup hq' hl' hx' =>
        rename_i ys c ws
        cases (show u2 = Value.ref _ from r2)
        obtain ⟨its2, rv2, ht2⟩ := tupAt O I hq'.t
        have h' : allEq (eqv η n) xs ys = some b := h
        obtain ⟨e, he, hb⟩ := seqs_eq O (A := A.in1) rv rv2 ⟨hl, hx⟩ ⟨hl', hx'⟩ h' ih
        exact hb ▸ RcNeAt.tuples ht ht2 hu0 he
      | fl _ _ _ => cases h
      | loc hn =>
        cases (show u2 = Value.ref _ from r2)
        rename_i q c
        have h' : (match η.get q with | some (.lst _) => some false | _ => none) = some b := h
        cases hg : η.get q with
        | none => rw [hg] at h'; cases h'
        | some o =>
          rw [hg] at h'
          cases o with
          | lst ys =>
            cases h'
            obtain ⟨ws, hH, _⟩ := locList S hn hg
            obtain ⟨its2, _, ht2⟩ := lstAt O I (SqL.of (K := G.K) hH)
            exact RcNeAt.tuple_list ht ht2 hu0
          | dic _ _ => cases h'
          | ins _ _ => cases h'
    | loc hn =>
      rename_i q a
      cases (show u1 = Value.ref _ from r1)
      rw [eqv_loc] at h
      cases hg : η.get q with
      | none => rw [hg] at h; cases h
      | some o =>
        rw [hg] at h
        have h' := h
        cases o with
        | dic _ _ => cases h'
        | ins _ _ => cases h'
        | lst xs =>
          obtain ⟨vs, hH, R1⟩ := locList S hn hg
          obtain ⟨its, rv, ht⟩ := lstAt O I (SqL.of (K := G.K) hH)
          cases ry with
          | non => cases (show u2 = Value.none from r2); cases h'; exact RcNeAt.list_none ht hu0
          | bl q => cases (show u2 = Value.bool q from r2); cases h'; exact RcNeAt.list_bool q ht hu0
          | int j => obtain ⟨t, rfl⟩ := (show ∃ t, u2 = Value.int j t from r2); cases h'; exact RcNeAt.list_int j t ht hu0
          | str z => obtain ⟨t, rfl⟩ := (show ∃ t, u2 = Value.str (strOf z) t from r2); cases h'; exact RcNeAt.list_str _ t ht hu0
          | tup hq' _ _ =>
            cases (show u2 = Value.ref _ from r2); cases h'
            obtain ⟨its2, _, ht2⟩ := tupAt O I hq'.t
            exact RcNeAt.list_tuple ht ht2 hu0
          | fl _ _ _ => cases h'
          | loc hn' =>
            rename_i q' c
            cases (show u2 = Value.ref _ from r2)
            have h2 : (match η.get q' with | some (.lst ys) => allEq (eqv η n) xs ys | _ => none) = some b := h'
            cases hg' : η.get q' with
            | none => rw [hg'] at h2; cases h2
            | some o' =>
              rw [hg'] at h2
              cases o' with
              | dic _ _ => cases h2
              | ins _ _ => cases h2
              | lst ys =>
                have h3 : allEq (eqv η n) xs ys = some b := h2
                obtain ⟨ws, hH', R2⟩ := locList S hn' hg'
                obtain ⟨its2, rv2, ht2⟩ := lstAt O I (SqL.of (K := G.K) hH')
                obtain ⟨e, he, hb⟩ := seqs_eq O (A := A.in1) rv rv2 R1 R2 h3 ih
                by_cases hz : its.toArray.size = its2.toArray.size
                · have := RcNeAt.lists ht ht2 hz hu0 he
                  have e2 : (List.range its.toArray.size).all e = b := by
                    rw [← hb, hz, Nat.min_self]; simp
                  rw [e2] at this; exact this
                · have e2 : b = false := by
                    rw [← hb]
                    have : (its.toArray.size == its2.toArray.size) = false := beq_eq_false_iff_ne.mpr hz
                    rw [this, Bool.and_false]
                  rw [e2]
                  exact RcNeAt.lists_lengths ht ht2 (by simpa using hz) hu0

theorem XOk.u (O : XOk X G) : X.A.units < cLine := by have := O.units; omega
theorem p_eq (O : XOk X G) : OP2 X G (compareOp .Eq) pEq := fun W pins s σ H v w u1 u2 Q I r1 r2 ⟨φ, η, x, y, S, rx, ry, p⟩ => by
  unfold pEq bv at p
  cases he : eqd η x y with
  | none => simp only [he] at p; exact p.elim
  | some b =>
    simp only [he] at p
    refine (eqv_rel O I S 60 X.A (by have := O.units; omega) x y v w u1 u2 b he rx ry r1 r2).1 _ _ _ _ ?_
    exact ⟨.bl b, H, I, rfl, p φ H (.bl b) Evo.refl S (.bl b)⟩
theorem p_ne (O : XOk X G) : OP2 X G (compareOp .NotEq) pNe := fun W pins s σ H v w u1 u2 Q I r1 r2 ⟨φ, η, x, y, S, rx, ry, p⟩ => by
  unfold pNe nv at p
  cases he : eqd η x y with
  | none => simp only [he] at p; exact p.elim
  | some b =>
    simp only [he] at p
    refine (neqv_rel O I S 60 X.A (by have := O.units; omega) x y v w u1 u2 b he rx ry r1 r2) _ _ _ _ ?_
    exact ⟨.bl (!b), H, I, rfl, p φ H (.bl (!b)) Evo.refl S (.bl (!b))⟩

theorem memL_some {h : He} {x : Vl} : ∀ {xs : List Vl} {b : Bool}, memL h x xs = some b → (∀ y ∈ xs, ∃ c, eqd h y x = some c) ∧ (b = true ↔ ∃ y ∈ xs, eqd h y x = some true)
  | [], b, e => by cases e; exact ⟨fun y m => (nomatch m), ⟨fun e => (nomatch e), fun ⟨y, m, _⟩ => (nomatch m)⟩⟩
  | z :: xs, b, e => by
    have e' : (match eqd h z x with | some c => (match c with | true => (match memL h x xs with | some _ => some true | none => none) | false => memL h x xs) | none => none) = some b := e
    cases hz : eqd h z x with
    | none => rw [hz] at e'; cases e'
    | some c =>
      rw [hz] at e'
      cases c with
      | true =>
        cases hm : memL h x xs with
        | none => simp only [hm] at e'; cases e'
        | some d =>
          simp only [hm] at e'
          cases e'
          obtain ⟨a1, _⟩ := memL_some hm
          refine ⟨fun y m => ?_, ⟨fun _ => ⟨z, List.mem_cons_self, hz⟩, fun _ => rfl⟩⟩
          rcases List.mem_cons.mp m with rfl | m
          · exact ⟨_, hz⟩
          · exact a1 y m
      | false =>
        obtain ⟨a1, a2⟩ := memL_some (show memL h x xs = some b from e')
        refine ⟨fun y m => ?_, ⟨fun e => ?_, fun ⟨y, m, q⟩ => ?_⟩⟩
        · rcases List.mem_cons.mp m with rfl | m
          · exact ⟨_, hz⟩
          · exact a1 y m
        · obtain ⟨y, m, q⟩ := a2.mp e; exact ⟨y, List.mem_cons_of_mem _ m, q⟩
        · rcases List.mem_cons.mp m with rfl | m
          · rw [hz] at q; cases q
          · exact a2.mpr ⟨y, m, q⟩
theorem getV : ∀ {vs : List V} {us : List Value} {i : Nat} {u : Value}, Vals vs us → us[i]? = some u → ∃ v, vs[i]? = some v ∧ RelV v u := fun {vs us i u} r h => by
  have hl := r.length
  have hi : i < us.length := (List.getElem?_eq_some_iff.mp h).1
  obtain ⟨w, hw, rw'⟩ := r.get (List.getElem?_eq_getElem (l := vs) (i := i) (by omega))
  rw [h] at hw; cases hw
  exact ⟨_, List.getElem?_eq_getElem _, rw'⟩
/-- which values of a list equal x -/
noncomputable def eqF (G : Gd) (φ : List Addr) (η : He) (H : Hp) (x : Vl) (u : Value) : Bool := @decide (∃ y v, RV G.K φ H y v ∧ RelV v u ∧ eqd η y x = some true) (Classical.propDecidable _)
theorem eqF_of (O : XOk X G) (I : Inv X pins σ H s) (S : Sim G φ η H) {x y : Vl} {v : V} {u : Value} {c : Bool} (ry : RV G.K φ H y v) (r : RelV v u) (h : eqd η y x = some c) : eqF G φ η H x u = c := by
  unfold eqF
  cases c with
  | true => exact @decide_eq_true _ (Classical.propDecidable _) ⟨y, v, ry, r, h⟩
  | false =>
    refine @decide_eq_false _ (Classical.propDecidable _) ?_
    rintro ⟨y', v', ry', r', h'⟩
    have e := r.inj r'
    subst e
    have := RV.inj O I S ry ry'
    subst this
    rw [h] at h'; cases h'
theorem mem_rel (O : XOk X G) (I : Inv X pins σ H s) (S : Sim G φ η H) {x : Vl} {v : V} {u : Value} {xs : List Vl} {vs : List V} {its : List Value} {b : Bool} (h : memL η x xs = some b) (rx : RV G.K φ H x v) (r1 : RelV v u) (R : RVs G.K φ H xs vs) (rv : Vals vs its) :
    (∀ y, y ∈ its.toArray → EqAt X.A.in1 s y u (eqF G φ η H x y)) ∧ its.toArray.any (eqF G φ η H x) = b := by
  obtain ⟨a1, a2⟩ := memL_some h
  have key : ∀ y, y ∈ its → ∃ z w c, z ∈ xs ∧ RV G.K φ H z w ∧ RelV w y ∧ eqd η z x = some c := fun y hy => by
    obtain ⟨j, hj⟩ := List.getElem?_of_mem hy
    obtain ⟨w, hw, rw'⟩ := getV rv hj
    obtain ⟨z, hz, rz⟩ := R.getR hw
    obtain ⟨c, hc⟩ := a1 z (List.mem_of_getElem? hz)
    exact ⟨z, w, c, List.mem_of_getElem? hz, rz, rw', hc⟩
  refine ⟨fun y hy => ?_, ?_⟩
  · obtain ⟨z, w, c, hz, rz, rw', hc⟩ := key y (by simpa using hy)
    rw [eqF_of O I S rz rw' hc]
    exact (eqv_rel O I S 60 X.A.in1 (by have := O.units; show X.A.units + 1 + 60 < cLine; omega) z x w v y u c hc rz rx rw' r1).2
  · rw [Bool.eq_iff_iff, a2, List.any_toArray, List.any_eq_true]
    constructor
    · rintro ⟨y, hy, q⟩
      obtain ⟨z, w, c, hz, rz, rw', hc⟩ := key y hy
      rw [eqF_of O I S rz rw' hc] at q
      subst q
      exact ⟨z, hz, hc⟩
    · rintro ⟨z, hz, hc⟩
      obtain ⟨j, hj⟩ := List.getElem?_of_mem hz
      obtain ⟨w, hw, rz⟩ := R.get hj
      obtain ⟨y, hy, rw'⟩ := rv.get hw
      exact ⟨y, List.mem_of_getElem? hy, by rw [eqF_of O I S rz rw' hc]⟩
end
end FP
end
section
namespace FP
open PySem PySem.Spec PyProof.Rows L2 PySem.SeqAt

theorem iadd_eq {α : Type} (i j : Int) (k : Int → α) : iadd i j k = k (i + j) := by
  unfold iadd
  cases i with
  | ofNat a => cases j with
    | ofNat b => exact frN_eq _ _
    | negSucc b => exact frI_eq _ _
  | negSucc a => exact frI_eq _ _
theorem imul_eq {α : Type} (i j : Int) (k : Int → α) : imul i j k = k (i * j) := by
  unfold imul
  cases i with
  | ofNat a => cases j with
    | ofNat b => exact frN_eq _ _
    | negSucc b => exact frI_eq _ _
  | negSucc a => exact frI_eq _ _
theorem ible_eq (i j : Int) : ible i j = decide (i ≤ j) := by
  cases i with
  | ofNat a => cases j with
    | ofNat b =>
      show Nat.ble a b = _
      rw [Bool.eq_iff_iff, Nat.ble_eq, decide_eq_true_iff]
      exact Int.ofNat_le.symm
    | negSucc b => show false = _; symm; rw [decide_eq_false_iff_not]; intro h; have := Int.negSucc_lt_zero b; have h2 : (0 : Int) ≤ Int.ofNat a := Int.natCast_nonneg a; omega
  | negSucc a => cases j with
    | ofNat b => show true = _; symm; rw [decide_eq_true_iff]; have := Int.negSucc_lt_zero a; have h2 : (0 : Int) ≤ Int.ofNat b := Int.natCast_nonneg b; omega
    | negSucc b =>
      show Nat.ble b a = _
      rw [Bool.eq_iff_iff, Nat.ble_eq, decide_eq_true_iff, Int.negSucc_eq, Int.negSucc_eq]
      omega
theorem iblt_eq (i j : Int) : iblt i j = decide (i < j) := by
  unfold iblt
  rw [ible_eq, Bool.eq_iff_iff]
  simp
theorem blt_lt {n m : Nat} (h : Nat.blt n m = true) : n < m := Nat.le_of_ble_eq_true h
theorem ismall_lt {i : Int} {k : Nat} (h : ismall i k = true) : i.natAbs < 2 ^ k := by
  cases i with
  | ofNat n => exact blt_lt h
  | negSucc n => exact blt_lt h
theorem small64_lt {i : Int} (h : small64 i = true) : -(2 ^ 64) < i ∧ i < 2 ^ 64 := by
  cases i with
  | ofNat n => have := blt_lt (m := 18446744073709551616) h; have h2 : Int.ofNat n = (n : Int) := rfl; omega
  | negSucc n => have := blt_lt (m := 18446744073709551615) h; rw [Int.negSucc_eq]; omega
theorem small30_lt {i : Int} (h : small30 i = true) : i.natAbs < 1073741824 := by
  cases i with
  | ofNat n => exact blt_lt (m := 1073741824) h
  | negSucc n => have := blt_lt (m := 1073741823) h; show n + 1 < _; omega

section
variable {X : Cx} {G : Gd}
/-- what an operator gives that makes nothing new -/
theorem post_ok {α β : Type} {R : List Addr → Hp → α → β → Prop} {W : Value → Option Addr → Hp → Prop} {φ : List Addr} {η : He} {H : Hp} {a : α} {b : β} {Q : β → Hp → Prop} (p : Post G R W φ H (.ok a η) Q) (S : Sim G φ η H) (r : R φ H a b) : Q b H := p φ H b Evo.refl S r
theorem sh2_le {α : Type} {xs ys : List α} (h : sh2 xs ys = true) : xs.length + ys.length ≤ sizeLine := line1000 (Nat.le_of_ble_eq_true h)
theorem strOf_app (s t : List Nat) : strOf s ++ strOf t = strOf (s ++ t) := by
  show Str.mk _ = Str.mk _
  congr 1
  simp [strOf]
theorem strOf_len (s : List Nat) : (strOf s).length = s.length := rfl
/-- a new list of the operator -/
theorem post_new {W : Value → Option Addr → Hp → Prop} {φ : List Addr} {η : He} {H : Hp} {xs : List Vl} {vs : List V} {p : Addr} {Q : VK} (h : Post G (RVl G) W φ H (newL xs η) Q) (S : Sim G φ η H) (R : RVs G.K φ H xs vs) (hp : H p = none) : Q (.ref p) (upd H p (.lst vs)) := by
  unfold newL at h
  rw [He.new_eq] at h
  refine h (φ ++ [p]) _ (.ref p) ((Evo.upd hp).add hp) ((S.upd hp).new (S.notIn hp) ⟨vs, upd_same, R.evo (Evo.upd hp) S.trk⟩) (.loc ?_)
  rw [List.getElem?_append_right (by rw [S.len]; exact Nat.le_refl _), S.len, Nat.sub_self]; rfl
/-- a new tuple of the operator -/
theorem post_tup {W : Value → Option Addr → Hp → Prop} {φ : List Addr} {η : He} {H : Hp} {xs : List Vl} {vs : List V} {Q : VK} (h : Post G (RVl G) W φ H (.ok (.tup xs) η) Q) (S : Sim G φ η H) (R : RVs G.K φ H xs vs) : NewT H vs Q :=
  fun p o hp hd => h φ _ (.ref p) (Evo.upd hp) (S.upd hp) (tupR S hp hd R)
theorem RVs.nil_iff {K : PySem.W.Frag} {φ : List Addr} {H : Hp} {xs : List Vl} {vs : List V} (R : RVs K φ H xs vs) : vs = [] ↔ xs = [] := by
  constructor
  · rintro rfl; exact List.length_eq_zero_iff.mp R.1
  · rintro rfl; exact R.inv_nil
/-- t + u -/
def rCatF (K : PySem.W.Frag) : R2 := fun x y H Q => ∃ a b xs ys, x = .ref a ∧ y = .ref b ∧ SqT K H a xs ∧ SqT K H b ys ∧ xs.length + ys.length ≤ sizeLine ∧
  (xs = [] → Q (.ref b) H) ∧ (xs ≠ [] → ys = [] → Q (.ref a) H) ∧ (xs ≠ [] → ys ≠ [] → NewT H (xs ++ ys) Q)
theorem op_catF : OpR X (binaryOp .Add) (rCatF X.K) := by
  intro pins s σ H x y v u Q I rx ry h
  obtain ⟨a, b, xs, ys, rfl, rfl, ha, hb, hz, q0, q1, q2⟩ := h
  cases rx
  cases ry
  obtain ⟨its, r1, p1, _⟩ := I.tuple ha
  obtain ⟨its2, r2, p2, _⟩ := I.tuple hb
  by_cases hx : xs = []
  · subst hx
    cases r1
    exact cat_tup0 p1 p2 ⟨.ref b, H, I, rfl, q0 rfl⟩
  · refine HT.cat_tup p1 p2 (fun z => hx (r1.nil_iff.mp z)) (fun z => ⟨.ref a, H, I, rfl, q1 hx (r2.nil_iff.mp z)⟩) (fun z => ?_) (by rw [← r1.length, ← r2.length]; exact hz)
    exact laidT I (r1.append r2) (by rw [List.length_append]; exact hz) (q2 hx fun w => z (r2.nil_iff.mpr w))
theorem p_add (O : XOk X G) : OP2 X G (binaryOp .Add) pAdd := fun W pins s σ H v w u1 u2 Q I r1 r2 ⟨φ, η, x, y, S, rx, ry, p⟩ => by
  cases rx with
  | int i => cases ry with
    | int j =>
      refine op_add pins s σ H _ _ _ _ Q I r1 r2 ⟨i, j, rfl, rfl, ?_⟩
      have p' : Post G (RVl G) W φ H (iadd i j fun r => .ok (.int r) η) Q := p
      rw [iadd_eq] at p'
      exact post_ok p' S (.int _)
    | bl b =>
      refine op_add_ib pins s σ H _ _ _ _ Q I r1 r2 ⟨i, b, rfl, rfl, ?_⟩
      have p' : Post G (RVl G) W φ H (iadd i (FP.b2i b) fun r => .ok (.int r) η) Q := p
      rw [iadd_eq] at p'
      have e : PyProof.Rows.b2i b = FP.b2i b := by cases b <;> rfl
      rw [e]
      exact post_ok p' S (.int _)
    | _ => exact p.elim
  | str a => cases ry with
    | str b =>
      have p' : Post G (RVl G) W φ H (match sh2 a b with | true => .ok (.str (a ++ b)) η | false => .bad 21) Q := p
      cases hs : sh2 a b with
      | false => simp only [hs] at p'; exact p'.elim
      | true =>
        simp only [hs] at p'
        refine op_add_str pins s σ H _ _ _ _ Q I r1 r2 ⟨strOf a, strOf b, rfl, rfl, sh2_le hs, ?_⟩
        rw [strOf_app]
        exact post_ok p' S (.str _)
    | _ => exact p.elim
  | @tup xs a vs hq hl hx => cases ry with
    | @tup ys b ws hq' hl' hx' =>
      have p' : Post G (RVl G) W φ H (match sh2 xs ys with | true => .ok (.tup (xs ++ ys)) η | false => .bad 22) Q := p
      cases hs : sh2 xs ys with
      | false => simp only [hs] at p'; exact p'.elim
      | true =>
        simp only [hs] at p'
        have R1 : RVs G.K φ H xs vs := ⟨hl, hx⟩
        have R2 : RVs G.K φ H ys ws := ⟨hl', hx'⟩
        refine op_catF pins s σ H _ _ _ _ Q I r1 r2 ⟨a, b, vs, ws, rfl, rfl, by rw [O.K]; exact hq.t, by rw [O.K]; exact hq'.t, by rw [← hl, ← hl']; exact sh2_le hs, fun e => ?_, fun _ e => ?_, fun _ _ => post_tup p' S (R1.append R2)⟩
        · rw [R1.nil_iff.mp e] at p'
          exact post_ok p' S (.tup hq' hl' hx')
        · rw [R2.nil_iff.mp e, List.append_nil] at p'
          exact post_ok p' S (.tup hq hl hx)
    | _ => exact p.elim
  | @loc m a hn =>
    have p' := p
    unfold pAdd at p'
    simp only at p'
    cases hg : η.get m with
    | none => simp only [hg] at p'; exact p'.elim
    | some o =>
      cases o with
      | dic _ _ => simp only [hg] at p'; exact p'.elim
      | ins _ _ => simp only [hg] at p'; exact p'.elim
      | lst xs =>
        simp only [hg] at p'
        cases ry with
        | @loc m' b hn' =>
          simp only at p'
          cases hg' : η.get m' with
          | none => simp only [hg'] at p'; exact p'.elim
          | some o' =>
            cases o' with
            | dic _ _ => simp only [hg'] at p'; exact p'.elim
            | ins _ _ => simp only [hg'] at p'; exact p'.elim
            | lst ys =>
              simp only [hg'] at p'
              cases hs : sh2 xs ys with
              | false => simp only [hs] at p'; exact p'.elim
              | true =>
                simp only [hs] at p'
                obtain ⟨vs, h1, R1⟩ := locList S hn hg
                obtain ⟨ws, h2, R2⟩ := locList S hn' hg'
                exact op_cat pins s σ H _ _ _ _ Q I r1 r2 ⟨a, b, vs, ws, rfl, rfl, h1, h2, by rw [← R1.1, ← R2.1]; exact sh2_le hs, fun q hp => post_new p' S (R1.append R2) hp⟩
        | _ => exact p'.elim
  | _ => exact p.elim
theorem p_sub (O : XOk X G) : OP2 X G (binaryOp .Sub) pSub := fun W pins s σ H v w u1 u2 Q I r1 r2 ⟨φ, η, x, y, S, rx, ry, p⟩ => by
  cases rx with
  | int i => cases ry with
    | int j =>
      refine op_sub pins s σ H _ _ _ _ Q I r1 r2 ⟨i, j, rfl, rfl, ?_⟩
      have p' : Post G (RVl G) W φ H (frI (Int.sub i j) fun r => .ok (.int r) η) Q := p
      rw [frI_eq] at p'
      exact post_ok p' S (.int _)
    | _ => exact p.elim
  | _ => exact p.elim
theorem fits_ok {i j : Int} (h : fits i j = true) : CMul i j ∨ CMulW i j := by
  unfold fits at h
  cases h1 : small64 i with
  | true => exact .inl (.inl (small64_lt h1))
  | false =>
    simp only [h1] at h
    cases h2 : small64 j with
    | true => exact .inl (.inr (small64_lt h2))
    | false =>
      simp only [h2] at h
      cases h3 : ismall i 60000 with
      | false => simp only [h3] at h; cases h
      | true =>
        simp only [h3] at h
        exact .inr (wide_mul (ismall_lt h3) (ismall_lt h) (by decide) (by decide) (by decide))
theorem repN_eq (n : Nat) (xs : List Vl) : repN n xs = (List.replicate n xs).flatten := by
  induction n with
  | zero => rfl
  | succ n ih => show xs ++ repN n xs = _; rw [ih, List.replicate_succ, List.flatten_cons]
theorem RVs.rep {K : PySem.W.Frag} {φ : List Addr} {H : Hp} {xs : List Vl} {vs : List V} (R : RVs K φ H xs vs) (n : Nat) : RVs K φ H (repN n xs) (List.replicate n vs).flatten := by
  induction n with
  | zero => exact RVs.nil
  | succ n ih => rw [List.replicate_succ, List.flatten_cons]; exact R.append ih
theorem p_mul (O : XOk X G) : OP2 X G (binaryOp .Mult) pMul := fun W pins s σ H v w u1 u2 Q I r1 r2 ⟨φ, η, x, y, S, rx, ry, p⟩ => by
  cases ry with
  | int j =>
    cases rx with
    | int i =>
      have p' : Post G (RVl G) W φ H (match fits i j with | true => imul i j fun r => .ok (.int r) η | false => .bad 28) Q := p
      cases hs : fits i j with
      | false => simp only [hs] at p'; exact p'.elim
      | true =>
        simp only [hs] at p'
        rw [imul_eq] at p'
        have q := post_ok p' S (.int _)
        rcases fits_ok hs with h | h
        · exact op_mul pins s σ H _ _ _ _ Q I r1 r2 ⟨i, j, rfl, rfl, h, q⟩
        · exact op_mulW pins s σ H _ _ _ _ Q I r1 r2 ⟨i, j, rfl, rfl, h, q⟩
    | @loc m a hn =>
      have p' := p
      unfold pMul at p'
      simp only at p'
      cases hg : η.get m with
      | none => simp only [hg] at p'; exact p'.elim
      | some o =>
        cases o with
        | dic _ _ => simp only [hg] at p'; exact p'.elim
        | ins _ _ => simp only [hg] at p'; exact p'.elim
        | lst xs =>
          simp only [hg] at p'
          cases j with
          | negSucc n => exact p'.elim
          | ofNat n =>
            simp only at p'
            cases hs : Nat.ble n 10000 && Nat.ble (Nat.mul xs.length n) 10000 with
            | false => simp only [hs] at p'; exact p'.elim
            | true =>
              simp only [hs] at p'
              simp only [Bool.and_eq_true, Nat.ble_eq] at hs
              obtain ⟨vs, h1, R1⟩ := locList S hn hg
              refine op_rep pins s σ H _ _ _ _ Q I r1 r2 ⟨a, _, vs, rfl, rfl, h1, by show -(2 ^ 63) ≤ (n : Int); omega, by show (n : Int) < 2 ^ 63; omega, ?_, fun q hp => post_new p' S (R1.rep n) hp⟩
              rw [← R1.1]; exact line1000 hs.2
    | _ => exact p.elim
  | _ => exact p.elim
theorem divs_ok {i j : Int} (h0 : ibeq j 0 = false) (h : divs j = true) : CDivN i j ∨ (CDivW i j ∧ i / j = i.fdiv j) := by
  have hj : j ≠ 0 := by rintro rfl; cases h0
  unfold divs at h
  cases h1 : small30 j with
  | true => exact .inl ⟨hj, small30_lt h1⟩
  | false =>
    simp only [h1] at h
    cases j with
    | negSucc n => cases h
    | ofNat n =>
      refine .inr ⟨wide_div ?_ (ismall_lt h) (by decide) (by decide), ?_⟩
      · show (0 : Int) < (n : Int)
        have : n ≠ 0 := by rintro rfl; exact hj rfl
        omega
      · exact (Int.fdiv_eq_ediv_of_nonneg i (Int.natCast_nonneg n)).symm
theorem p_fdiv (O : XOk X G) : OP2 X G (binaryOp .FloorDiv) pFdiv := fun W pins s σ H v w u1 u2 Q I r1 r2 ⟨φ, η, x, y, S, rx, ry, p⟩ => by
  cases rx with
  | int i => cases ry with
    | int j =>
      have p' : Post G (RVl G) W φ H (match ibeq j 0 with | true => .bad 34 | false => (match divs j with | true => frI (Int.fdiv i j) fun r => .ok (.int r) η | false => .bad 35)) Q := p
      cases h0 : ibeq j 0 with
      | true => simp only [h0] at p'; exact p'.elim
      | false =>
        simp only [h0] at p'
        cases hd : divs j with
        | false => simp only [hd] at p'; exact p'.elim
        | true =>
          simp only [hd] at p'
          rw [frI_eq] at p'
          have q := post_ok p' S (.int _)
          rcases divs_ok (i := i) h0 hd with h | ⟨h, e⟩
          · exact op_fdivN pins s σ H _ _ _ _ Q I r1 r2 ⟨i, j, rfl, rfl, h, q⟩
          · exact op_fdivW pins s σ H _ _ _ _ Q I r1 r2 ⟨i, j, rfl, rfl, h, by show Q (.int (i / j)) H; rw [e]; exact q⟩
    | _ => exact p.elim
  | _ => exact p.elim
theorem p_mod (O : XOk X G) : OP2 X G (binaryOp .Mod) pMod := fun W pins s σ H v w u1 u2 Q I r1 r2 ⟨φ, η, x, y, S, rx, ry, p⟩ => by
  cases rx with
  | int i => cases ry with
    | int j =>
      have p' : Post G (RVl G) W φ H (match ibeq j 0 with | true => .bad 37 | false => frI (Int.fmod i j) fun r => .ok (.int r) η) Q := p
      cases h0 : ibeq j 0 with
      | true => simp only [h0] at p'; exact p'.elim
      | false =>
        simp only [h0] at p'
        rw [frI_eq] at p'
        have hj : j ≠ 0 := by rintro rfl; cases h0
        exact op_modN pins s σ H _ _ _ _ Q I r1 r2 ⟨i, j, rfl, rfl, hj, post_ok p' S (.int _)⟩
    | _ => exact p.elim
  | _ => exact p.elim
theorem p_pow (O : XOk X G) : OP2 X G (binaryOp .Pow) pPow := fun W pins s σ H v w u1 u2 Q I r1 r2 ⟨φ, η, x, y, S, rx, ry, p⟩ => by
  cases rx with
  | int i => cases i with
    | negSucc _ => exact p.elim
    | ofNat n => cases ry with
      | int j => cases j with
        | negSucc _ => exact p.elim
        | ofNat k =>
          have p' : Post G (RVl G) W φ H (match Nat.blt n 1000 with | true => (match Nat.blt k 1000 with | true => frN (Nat.pow n k) fun r => .ok (.int (.ofNat r)) η | false => .bad 39) | false => .bad 39) Q := p
          cases h1 : Nat.blt n 1000 with
          | false => simp only [h1] at p'; exact p'.elim
          | true =>
            simp only [h1] at p'
            cases h2 : Nat.blt k 1000 with
            | false => simp only [h2] at p'; exact p'.elim
            | true =>
              simp only [h2] at p'
              rw [frN_eq] at p'
              have l1 := blt_lt h1
              have l2 := blt_lt h2
              have q := post_ok p' S (.int _)
              refine op_pow pins s σ H _ _ _ _ Q I r1 r2 ⟨_, _, rfl, rfl, ⟨Int.natCast_nonneg k, by show (k : Int) ≤ 1000000; omega, by show n < 2 ^ 64; omega⟩, ?_⟩
              have e : (Int.ofNat n) ^ (Int.ofNat k).toNat = Int.ofNat (Nat.pow n k) := by
                show ((n : Int)) ^ k = ((n ^ k : Nat) : Int)
                rw [Int.natCast_pow]
              show Q (.int (Int.ofNat n ^ (Int.ofNat k).toNat)) H
              rw [e]; exact q
      | _ => exact p.elim
  | _ => exact p.elim
theorem p_neg (O : XOk X G) : OP1 X G (unaryOp .USub) pNeg := fun W pins s σ H v u1 Q I r1 ⟨φ, η, x, S, rx, p⟩ => by
  cases rx with
  | int i =>
    have p' : Post G (RVl G) W φ H (frI (Int.neg i) fun r => .ok (.int r) η) Q := p
    rw [frI_eq] at p'
    exact un_neg pins s σ H _ _ Q I r1 ⟨i, rfl, post_ok p' S (.int _)⟩
  | _ => exact p.elim
theorem p_le (O : XOk X G) : OP2 X G (compareOp .LtE) pLe := fun W pins s σ H v w u1 u2 Q I r1 r2 ⟨φ, η, x, y, S, rx, ry, p⟩ => by
  cases rx with
  | int i => cases ry with
    | int j => exact op_le pins s σ H _ _ _ _ Q I r1 r2 ⟨i, j, rfl, rfl, by show Q (.bl (decide (i ≤ j))) H; rw [← ible_eq]; exact post_ok p S (.bl _)⟩
    | _ => exact p.elim
  | _ => exact p.elim
theorem p_ge (O : XOk X G) : OP2 X G (compareOp .GtE) pGe := fun W pins s σ H v w u1 u2 Q I r1 r2 ⟨φ, η, x, y, S, rx, ry, p⟩ => by
  cases rx with
  | int i => cases ry with
    | int j => exact op_ge pins s σ H _ _ _ _ Q I r1 r2 ⟨i, j, rfl, rfl, by show Q (.bl (decide (j ≤ i))) H; rw [← ible_eq]; exact post_ok p S (.bl _)⟩
    | _ => exact p.elim
  | _ => exact p.elim
theorem p_gt (O : XOk X G) : OP2 X G (compareOp .Gt) pGt := fun W pins s σ H v w u1 u2 Q I r1 r2 ⟨φ, η, x, y, S, rx, ry, p⟩ => by
  cases rx with
  | int i => cases ry with
    | int j => exact op_gt pins s σ H _ _ _ _ Q I r1 r2 ⟨i, j, rfl, rfl, by show Q (.bl (decide (j < i))) H; rw [← iblt_eq]; exact post_ok p S (.bl _)⟩
    | _ => exact p.elim
  | _ => exact p.elim
end
end FP
end
section
namespace FP
open PySem PySem.Spec PyProof.Rows L2 PySem.SeqAt

/-- a built-in function's name, a built-in type's name, as they are -/
structure Bn (X : Cx) (x : Str) (u : Value) : Prop where
  g : Gl X x
  m : X.mg x = none
  v : bootBuiltins x = some u
  n : x ≠ "__name__"
  d : (x == ("__debug__" : Str)) = false
/-- lists alone -/
def RQl (G : Gd) : List Addr → Hp → List Vl → V → Prop := fun φ H xs v => ∃ a vs, v = .ref a ∧ SqL G.K H a vs ∧ RVs G.K φ H xs vs
def SQl (X : Cx) (G : Gd) (e : Expr) (f : EvQ) : Prop := ∀ W, Takes X W → PE X e (rd G X.N.length (RQl G) W f)
def CR1 (X : Cx) (G : Gd) (f : Value) (p : P1) : Prop := ∀ W : Value → Option Addr → Hp → Prop, CallR X f fun vs H Q => ∃ v φ η x, vs = [v] ∧ Sim G φ η H ∧ RV G.K φ H x v ∧ Post G (RVl G) W φ H (p x η) Q
def CR2 (X : Cx) (G : Gd) (f : Value) (p : P2) : Prop := ∀ W : Value → Option Addr → Hp → Prop, CallR X f fun vs H Q => ∃ v w φ η x y, vs = [v, w] ∧ Sim G φ η H ∧ RV G.K φ H x v ∧ RV G.K φ H y w ∧ Post G (RVl G) W φ H (p x y η) Q
/-- of a list or tuple; of a list -/
def CRQ (X : Cx) (G : Gd) (f : Value) (p : PQ) : Prop := ∀ W : Value → Option Addr → Hp → Prop, CallR X f fun vs H Q => ∃ v φ η xs, vs = [v] ∧ Sim G φ η H ∧ RQ G φ H xs v ∧ Post G (RVl G) W φ H (p xs η) Q
def CRL (X : Cx) (G : Gd) (f : Value) (p : PQ) : Prop := ∀ W : Value → Option Addr → Hp → Prop, CallR X f fun vs H Q => ∃ v φ η xs, vs = [v] ∧ Sim G φ η H ∧ RQl G φ H xs v ∧ Post G (RVl G) W φ H (p xs η) Q

section
variable {X : Cx} {G : Gd}
/-- a call of either -/
theorem pe_callU {x : Str} {u : Value} {e : Expr} {es : List Expr} {t : TA} {r : List V → Hp → VK → Prop} {p pos : Pos} (B : Bn X x u) (hu : (∃ id, u = .builtin id) ∨ ∃ T, u = .type T) (hc : CallR X u r) (ha : PA X (e :: es) t) (hn : NoStar (e :: es)) :
    PE X (.Call (.Name x p) (e :: es) [] pos) (tCB r t) := by
  have h1 := starEach_cons (env := X.env) (es := es) (hn e List.mem_cons_self)
  have h2 : (backTo pos (starEach es X.env)).any (·.1) = false := NoStar.any fun e' m => hn e' (List.mem_cons_of_mem _ m)
  rcases hu with ⟨id, rfl⟩ | ⟨T, rfl⟩
  · exact pe_callB hc B.g B.m B.v ha B.n B.d h1 h2
  · exact pe_callTy hc B.g B.m B.v ha B.n B.d h1 h2
theorem NoStar.one {e : Expr} (h : ∀ v p, e ≠ .Starred v p) : NoStar [e] := fun e' m => by
  rcases List.mem_cons.mp m with rfl | m
  · exact h
  · cases m
theorem NoStar.two {a b : Expr} (h : ∀ v p, a ≠ .Starred v p) (h' : ∀ v p, b ≠ .Starred v p) : NoStar [a, b] := fun e' m => by
  rcases List.mem_cons.mp m with rfl | m
  · exact h
  · exact NoStar.one h' e' m
theorem s_call1 {x : Str} {u : Value} {a : Expr} {f : EvE} {p : P1} {np pos : Pos} (B : Bn X x u) (hu : (∃ id, u = .builtin id) ∨ ∃ T, u = .type T) (hc : CR1 X G u p) (hn : ∀ v p, a ≠ .Starred v p) (ha : SE X G a f) :
    SE X G (.Call (.Name x np) [a] [] pos) (e1 p f) := fun W tk =>
  ⟨fun pins s σ H Q I h => (pe_callU B hu (hc fun c d H' => W c d σ H') (pa_cons (ha W tk) pa_nil (starEach_cons hn)) (NoStar.one hn)).run pins s σ H Q I
    ((one h).imp fun v H1 ⟨φ, η, x, S, R, p⟩ => ⟨v, φ, η, x, rfl, S, R, p⟩)⟩
theorem s_call2 {x : Str} {u : Value} {a b : Expr} {f g : EvE} {p : P2} {np pos : Pos} (B : Bn X x u) (hu : (∃ id, u = .builtin id) ∨ ∃ T, u = .type T) (hc : CR2 X G u p) (hn : ∀ v p, a ≠ .Starred v p) (hn' : ∀ v p, b ≠ .Starred v p) (ha : SE X G a f) (hb : SE X G b g) :
    SE X G (.Call (.Name x np) [a, b] [] pos) (e2 p f g) := fun W tk =>
  ⟨fun pins s σ H Q I h => (pe_callU B hu (hc fun c d H' => W c d σ H') (pa_cons (ha W tk) (pa_cons (hb W tk) pa_nil (starEach_cons hn')) (starEach_cons hn)) (NoStar.two hn hn')).run pins s σ H Q I
    ((two h).imp fun v H1 q => q.imp fun w H2 ⟨φ, η, x, y, S, R, R', p⟩ => ⟨v, w, φ, η, x, y, rfl, S, R, R', p⟩)⟩
theorem oneQ {n : Nat} {W : WX} {σ : L2.St} {H : Hp} {R : List Addr → Hp → List Vl → V → Prop} {s : EvQ} {p : PQ} {Q : V → Hp → Prop} (h : rd G n (RVl G) W (eQ p s) σ H Q) :
    rd G n R W s σ H fun v H1 => ∃ φ η xs, Sim G φ η H1 ∧ R φ H1 xs v ∧ Post G (RVl G) (fun c d H' => W c d σ H') φ H1 (p xs η) Q :=
  (rd_bind (R := R) (k := fun xs _ h => p xs h) h).imp fun v H1 ⟨φ1, η1, r1, x, S1, E1, R1, p1⟩ => ⟨φ1, η1, x, S1, R1, p1⟩
theorem s_callQ {x : Str} {u : Value} {a : Expr} {f : EvQ} {p : PQ} {np pos : Pos} (B : Bn X x u) (hu : (∃ id, u = .builtin id) ∨ ∃ T, u = .type T) (hc : CRQ X G u p) (hn : ∀ v p, a ≠ .Starred v p) (ha : SQ X G a f) :
    SE X G (.Call (.Name x np) [a] [] pos) (eQ p f) := fun W tk =>
  ⟨fun pins s σ H Q I h => (pe_callU B hu (hc fun c d H' => W c d σ H') (pa_cons (ha W tk) pa_nil (starEach_cons hn)) (NoStar.one hn)).run pins s σ H Q I
    ((oneQ h).imp fun v H1 ⟨φ, η, x, S, R, p⟩ => ⟨v, φ, η, x, rfl, S, R, p⟩)⟩
theorem s_callL {x : Str} {u : Value} {a : Expr} {f : EvQ} {p : PQ} {np pos : Pos} (B : Bn X x u) (hu : (∃ id, u = .builtin id) ∨ ∃ T, u = .type T) (hc : CRL X G u p) (hn : ∀ v p, a ≠ .Starred v p) (ha : SQl X G a f) :
    SE X G (.Call (.Name x np) [a] [] pos) (eQ p f) := fun W tk =>
  ⟨fun pins s σ H Q I h => (pe_callU B hu (hc fun c d H' => W c d σ H') (pa_cons (ha W tk) pa_nil (starEach_cons hn)) (NoStar.one hn)).run pins s σ H Q I
    ((oneQ h).imp fun v H1 ⟨φ, η, x, S, R, p⟩ => ⟨v, φ, η, x, rfl, S, R, p⟩)⟩
theorem ql_of_l {e : Expr} {f : EvQ} (h : SL X G e f) : SQl X G e f := fun W tk => by
  refine peWeak (h W tk) fun σ H Q q => ?_
  obtain ⟨φ, η, r, S, E, p⟩ := q
  refine ⟨φ, η, r, S, E, ?_⟩
  cases hf : f r η with
  | bad n => rw [hf] at p; exact p
  | ex c v η' => rw [hf] at p; exact p
  | ok xs η' =>
    rw [hf] at p
    rintro φ1 H1 v e1 S1 ⟨a, vs, rfl, h0, ha, hn, R1⟩
    exact p φ1 H1 _ e1 S1 ⟨a, vs, rfl, SqL.of ha, R1⟩
theorem q_of_ql {e : Expr} {f : EvQ} (h : SQl X G e f) : SQ X G e f := fun W tk => by
  refine peWeak (h W tk) fun σ H Q q => ?_
  obtain ⟨φ, η, r, S, E, p⟩ := q
  refine ⟨φ, η, r, S, E, ?_⟩
  cases hf : f r η with
  | bad n => rw [hf] at p; exact p
  | ex c v η' => rw [hf] at p; exact p
  | ok xs η' =>
    rw [hf] at p
    rintro φ1 H1 v e1 S1 ⟨a, vs, rfl, ha, R1⟩
    exact p φ1 H1 _ e1 S1 ⟨a, vs, rfl, .inl ha, R1⟩
theorem lstOf_rel {φ : List Addr} {η : He} {H : Hp} {x : Vl} {v : V} {xs : List Vl} (S : Sim G φ η H) (r : RV G.K φ H x v) (h : lstOf η x = some xs) : RQl G φ H xs v := by
  cases r with
  | fl hq hl hx => cases h; exact ⟨_, _, rfl, hq.l, hl, hx⟩
  | @loc m a hn =>
    unfold lstOf at h
    simp only at h
    cases hg : η.get m with
    | none => simp only [hg] at h; cases h
    | some o =>
      simp only [hg] at h
      cases o with
      | lst xs =>
        cases h
        obtain ⟨vs, hH, R⟩ := locList S hn hg
        exact ⟨a, vs, rfl, SqL.of hH, R⟩
      | dic lk es => cases h
      | ins c fs => cases h
  | _ => cases h
theorem ql_of {e : Expr} {f : EvE} (h : SE X G e f) : SQl X G e (qOfL f) := fun W tk => by
  refine peWeak (h W tk) fun σ H Q q => ?_
  refine (rd_bind (R := RVl G) (k := fun v _ h => match lstOf h v with | some xs => .ok xs h | none => .bad 200) q).imp ?_
  rintro v H1 ⟨φ1, η1, r1, x, S1, E1, R1, p1⟩
  cases ht : lstOf η1 x with
  | none => simp only [ht] at p1; exact p1.elim
  | some xs =>
    simp only [ht] at p1
    exact p1 φ1 H1 v Evo.refl S1 (lstOf_rel S1 R1 ht)

theorem c_abs : CR1 X G (.builtin "abs") pAbs := fun W pins s σ H vs us Q I rs ⟨v, φ, η, x, e, S, rx, p⟩ => by
  subst e
  cases rx with
  | int i =>
    refine call_abs pins s σ H _ us Q I rs ⟨i, rfl, ?_⟩
    cases i with
    | ofNat n =>
      have q := post_ok p S (.int _)
      have e : (if Int.ofNat n < 0 then -Int.ofNat n else Int.ofNat n) = Int.ofNat n := if_neg (by have h : (0 : Int) ≤ Int.ofNat n := Int.natCast_nonneg n; omega)
      rw [e]; exact q
    | negSucc n =>
      have q := post_ok p S (.int _)
      have e : (if Int.negSucc n < 0 then -Int.negSucc n else Int.negSucc n) = Int.ofNat (Nat.succ n) := if_pos (Int.negSucc_lt_zero n)
      rw [e]; exact q
  | _ => exact p.elim
theorem c_int : CR1 X G (.type "int") pInt := fun W pins s σ H vs us Q I rs ⟨v, φ, η, x, e, S, rx, p⟩ => by
  subst e
  cases rx with
  | int i => exact call_int1 pins s σ H _ us Q I rs (.inl ⟨i, rfl, post_ok p S (.int _)⟩)
  | bl b =>
    refine call_int1 pins s σ H _ us Q I rs (.inr ⟨b, rfl, ?_⟩)
    have q := post_ok p S (.int _)
    cases b <;> exact q
  | _ => exact p.elim
theorem c_max2 (O : XOk X G) : CR2 X G (.builtin "max") pMax2 := fun W pins s σ H vs us Q I rs ⟨v, w, φ, η, x, y, e, S, rx, ry, p⟩ => by
  subst e
  cases rx with
  | int i => cases ry with
    | int j =>
      refine call_max2 O.calm pins s σ H _ us Q I rs ⟨i, j, rfl, ?_⟩
      have p' : Post G (RVl G) W φ H (match iblt i j with | true => .ok (.int j) η | false => .ok (.int i) η) Q := p
      rw [iblt_eq] at p'
      by_cases h : i < j
      · rw [decide_eq_true h] at p'; rw [if_pos h]; exact post_ok p' S (.int _)
      · rw [decide_eq_false h] at p'; rw [if_neg h]; exact post_ok p' S (.int _)
    | _ => exact p.elim
  | _ => exact p.elim
theorem c_min2 (O : XOk X G) : CR2 X G (.builtin "min") pMin2 := fun W pins s σ H vs us Q I rs ⟨v, w, φ, η, x, y, e, S, rx, ry, p⟩ => by
  subst e
  cases rx with
  | int i => cases ry with
    | int j =>
      refine call_min2 O.calm pins s σ H _ us Q I rs ⟨i, j, rfl, ?_⟩
      have p' : Post G (RVl G) W φ H (match iblt j i with | true => .ok (.int j) η | false => .ok (.int i) η) Q := p
      rw [iblt_eq] at p'
      by_cases h : j < i
      · rw [decide_eq_true h] at p'; rw [if_pos h]; exact post_ok p' S (.int _)
      · rw [decide_eq_false h] at p'; rw [if_neg h]; exact post_ok p' S (.int _)
    | _ => exact p.elim
  | _ => exact p.elim

theorem RV.ofInt {K : PySem.W.Frag} {φ : List Addr} {H : Hp} {i : Int} {v : V} (h : RV K φ H (.int i) v) : v = .int i := by cases h; rfl
theorem RV.ofBl {K : PySem.W.Frag} {φ : List Addr} {H : Hp} {b : Bool} {v : V} (h : RV K φ H (.bl b) v) : v = .bl b := by cases h; rfl
theorem RVs.ints {K : PySem.W.Frag} {φ : List Addr} {H : Hp} : ∀ {ns : List Int} {vs : List V}, RVs K φ H (ns.map .int) vs → vs = ns.map V.int
  | [], vs, R => R.inv_nil
  | n :: ns, vs, R => by
    obtain ⟨v, ws, rfl, r, R'⟩ := R.inv_cons
    rw [r.ofInt, RVs.ints R']; rfl
theorem RVs.bls {K : PySem.W.Frag} {φ : List Addr} {H : Hp} : ∀ {ns : List Bool} {vs : List V}, RVs K φ H (ns.map .bl) vs → vs = ns.map V.bl
  | [], vs, R => R.inv_nil
  | n :: ns, vs, R => by
    obtain ⟨v, ws, rfl, r, R'⟩ := R.inv_cons
    rw [r.ofBl, RVs.bls R']; rfl
theorem sumL_some : ∀ {xs : List Vl} {a r : Int}, sumL xs a = some r → ∃ ns : List Int, xs = ns.map .int ∧ r = a + ns.sum
  | [], a, r, h => by cases h; exact ⟨[], rfl, by simp⟩
  | x :: xs, a, r, h => by
    cases x with
    | int i =>
      have h' : (iadd a i fun s => sumL xs s) = some r := h
      rw [iadd_eq] at h'
      obtain ⟨ns, e, e2⟩ := sumL_some h'
      exact ⟨i :: ns, by rw [e]; rfl, by rw [e2, List.sum_cons]; omega⟩
    | _ => cases h
theorem anyL_some : ∀ {xs : List Vl} {r : Bool}, anyL xs = some r → ∃ bs : List Bool, xs = bs.map .bl ∧ r = bs.any id
  | [], r, h => by cases h; exact ⟨[], rfl, rfl⟩
  | x :: xs, r, h => by
    cases x with
    | bl b =>
      have h' : (match anyL xs with | some c => some (b || c) | none => none) = some r := h
      cases ha : anyL xs with
      | none => rw [ha] at h'; cases h'
      | some c =>
        rw [ha] at h'
        cases h'
        obtain ⟨bs, e, e2⟩ := anyL_some ha
        exact ⟨b :: bs, by rw [e]; rfl, by rw [e2]; rfl⟩
    | _ => cases h
theorem allL_some : ∀ {xs : List Vl} {r : Bool}, allL xs = some r → ∃ bs : List Bool, xs = bs.map .bl ∧ r = bs.all id
  | [], r, h => by cases h; exact ⟨[], rfl, rfl⟩
  | x :: xs, r, h => by
    cases x with
    | bl b =>
      have h' : (match allL xs with | some c => some (b && c) | none => none) = some r := h
      cases ha : allL xs with
      | none => rw [ha] at h'; cases h'
      | some c =>
        rw [ha] at h'
        cases h'
        obtain ⟨bs, e, e2⟩ := allL_some ha
        exact ⟨b :: bs, by rw [e]; rfl, by rw [e2]; rfl⟩
    | _ => cases h
theorem maxL_some : ∀ {xs : List Vl} {a r : Int}, maxL a xs = some r → ∃ ns : List Int, xs = ns.map .int ∧ r ∈ a :: ns ∧ ∀ y ∈ a :: ns, y ≤ r
  | [], a, r, h => by cases h; exact ⟨[], rfl, by simp, by simp⟩
  | x :: xs, a, r, h => by
    cases x with
    | int i =>
      have h' : (match iblt a i with | true => maxL i xs | false => maxL a xs) = some r := h
      rw [iblt_eq] at h'
      by_cases q : a < i
      · rw [decide_eq_true q] at h'
        obtain ⟨ns, e, m, l⟩ := maxL_some (show maxL i xs = some r from h')
        refine ⟨i :: ns, by rw [e]; rfl, List.mem_cons_of_mem _ m, fun y hy => ?_⟩
        rcases List.mem_cons.mp hy with rfl | hy
        · have := l i List.mem_cons_self; omega
        · exact l y hy
      · rw [decide_eq_false q] at h'
        obtain ⟨ns, e, m, l⟩ := maxL_some (show maxL a xs = some r from h')
        refine ⟨i :: ns, by rw [e]; rfl, ?_, fun y hy => ?_⟩
        · rcases List.mem_cons.mp m with rfl | m
          · exact List.mem_cons_self
          · exact List.mem_cons_of_mem _ (List.mem_cons_of_mem _ m)
        · rcases List.mem_cons.mp hy with rfl | hy
          · exact l _ List.mem_cons_self
          · rcases List.mem_cons.mp hy with rfl | hy
            · have := l a List.mem_cons_self; omega
            · exact l y (List.mem_cons_of_mem _ hy)
    | _ => cases h
theorem minL_some : ∀ {xs : List Vl} {a r : Int}, minL a xs = some r → ∃ ns : List Int, xs = ns.map .int ∧ r ∈ a :: ns ∧ ∀ y ∈ a :: ns, r ≤ y
  | [], a, r, h => by cases h; exact ⟨[], rfl, by simp, by simp⟩
  | x :: xs, a, r, h => by
    cases x with
    | int i =>
      have h' : (match iblt i a with | true => minL i xs | false => minL a xs) = some r := h
      rw [iblt_eq] at h'
      by_cases q : i < a
      · rw [decide_eq_true q] at h'
        obtain ⟨ns, e, m, l⟩ := minL_some (show minL i xs = some r from h')
        refine ⟨i :: ns, by rw [e]; rfl, List.mem_cons_of_mem _ m, fun y hy => ?_⟩
        rcases List.mem_cons.mp hy with rfl | hy
        · have := l i List.mem_cons_self; omega
        · exact l y hy
      · rw [decide_eq_false q] at h'
        obtain ⟨ns, e, m, l⟩ := minL_some (show minL a xs = some r from h')
        refine ⟨i :: ns, by rw [e]; rfl, ?_, fun y hy => ?_⟩
        · rcases List.mem_cons.mp m with rfl | m
          · exact List.mem_cons_self
          · exact List.mem_cons_of_mem _ (List.mem_cons_of_mem _ m)
        · rcases List.mem_cons.mp hy with rfl | hy
          · exact l _ List.mem_cons_self
          · rcases List.mem_cons.mp hy with rfl | hy
            · have := l a List.mem_cons_self; omega
            · exact l y (List.mem_cons_of_mem _ hy)
    | _ => cases h
theorem c_sum (O : XOk X G) : CRL X G (.builtin "sum") qSum := fun W pins s σ H vs us Q I rs ⟨v, φ, η, xs, e, S, ⟨a, ws, e2, hq, R⟩, p⟩ => by
  subst e; subst e2
  unfold qSum at p
  cases hs : sumL xs 0 with
  | none => simp only [hs] at p; exact p.elim
  | some r =>
    simp only [hs] at p
    obtain ⟨ns, rfl, rfl⟩ := sumL_some hs
    refine cr_sum O.calm pins s σ H _ us Q I rs ⟨a, ns, rfl, by rw [O.K, ← R.ints]; exact hq, ?_⟩
    have := post_ok p S (.int _)
    rw [Int.zero_add] at this; exact this
theorem c_any (O : XOk X G) : CRL X G (.builtin "any") qAny := fun W pins s σ H vs us Q I rs ⟨v, φ, η, xs, e, S, ⟨a, ws, e2, hq, R⟩, p⟩ => by
  subst e; subst e2
  unfold qAny bv at p
  cases hs : anyL xs with
  | none => simp only [hs] at p; exact p.elim
  | some r =>
    simp only [hs] at p
    obtain ⟨ns, rfl, rfl⟩ := anyL_some hs
    exact cr_any O.calm pins s σ H _ us Q I rs ⟨a, ns, rfl, by rw [O.K, ← R.bls]; exact hq, post_ok p S (.bl _)⟩
theorem c_all (O : XOk X G) : CRL X G (.builtin "all") qAll := fun W pins s σ H vs us Q I rs ⟨v, φ, η, xs, e, S, ⟨a, ws, e2, hq, R⟩, p⟩ => by
  subst e; subst e2
  unfold qAll bv at p
  cases hs : allL xs with
  | none => simp only [hs] at p; exact p.elim
  | some r =>
    simp only [hs] at p
    obtain ⟨ns, rfl, rfl⟩ := allL_some hs
    exact cr_all O.calm pins s σ H _ us Q I rs ⟨a, ns, rfl, by rw [O.K, ← R.bls]; exact hq, post_ok p S (.bl _)⟩
theorem c_max (O : XOk X G) : CRL X G (.builtin "max") qMax := fun W pins s σ H vs us Q I rs ⟨v, φ, η, xs, e, S, ⟨a, ws, e2, hq, R⟩, p⟩ => by
  subst e; subst e2
  cases xs with
  | nil => exact p.elim
  | cons x xs => cases x with
    | int i =>
      have p' : Post G (RVl G) W φ H (match maxL i xs with | some z => .ok (.int z) η | none => .bad 70) Q := p
      cases hs : maxL i xs with
      | none => simp only [hs] at p'; exact p'.elim
      | some r =>
        simp only [hs] at p'
        obtain ⟨ns, rfl, m, l⟩ := maxL_some hs
        refine cr_max O.calm pins s σ H _ us Q I rs ⟨a, i :: ns, rfl, by rw [O.K, ← RVs.ints (ns := i :: ns) R]; exact hq, by simp, fun z hz hy => ?_⟩
        have e : z = r := by have h1 := l z hz; have h2 := hy r m; omega
        rw [e]; exact post_ok p' S (.int _)
    | _ => exact p.elim
theorem c_min (O : XOk X G) : CRL X G (.builtin "min") qMin := fun W pins s σ H vs us Q I rs ⟨v, φ, η, xs, e, S, ⟨a, ws, e2, hq, R⟩, p⟩ => by
  subst e; subst e2
  cases xs with
  | nil => exact p.elim
  | cons x xs => cases x with
    | int i =>
      have p' : Post G (RVl G) W φ H (match minL i xs with | some z => .ok (.int z) η | none => .bad 73) Q := p
      cases hs : minL i xs with
      | none => simp only [hs] at p'; exact p'.elim
      | some r =>
        simp only [hs] at p'
        obtain ⟨ns, rfl, m, l⟩ := minL_some hs
        refine cr_min O.calm pins s σ H _ us Q I rs ⟨a, i :: ns, rfl, by rw [O.K, ← RVs.ints (ns := i :: ns) R]; exact hq, by simp, fun z hz hy => ?_⟩
        have e : z = r := by have h1 := l z hz; have h2 := hy r m; omega
        rw [e]; exact post_ok p' S (.int _)
    | _ => exact p.elim
theorem c_tuple (O : XOk X G) : CRQ X G (.type "tuple") qTuple := fun W pins s σ H vs us Q I rs ⟨v, φ, η, xs, e, S, ⟨a, ws, e2, hq, R⟩, p⟩ => by
  subst e; subst e2
  obtain ⟨u, rfl, ru⟩ := rs.one
  cases (show u = Value.ref a from ru)
  rcases hq with hq | hq
  · obtain ⟨its, rv, pl, hz⟩ := I.list (by rw [O.K]; exact hq)
    refine call_tuple_list pl.isList (fun h' hk => ?_) (by rw [List.size_toArray, ← rv.length]; exact hz)
    have I1 : Inv X pins σ H { s with heap := h' } := I.kept (t' := s.toks) hk
    exact laidT I1 rv hz (post_tup p S R)
  · exact rl_tuple pins s σ H (.ref a) _ Q I rfl (.inr ⟨a, ws, rfl, by rw [O.K]; exact hq.t, post_ok p S (.tup hq R.1 R.2)⟩)
theorem c_list (O : XOk X G) : CRQ X G (.type "list") qList := fun W pins s σ H vs us Q I rs ⟨v, φ, η, xs, e, S, ⟨a, ws, e2, hq, R⟩, p⟩ => by
  subst e; subst e2
  exact call_list_of pins s σ H _ us Q I rs ⟨a, ws, rfl, by rw [O.K]; exact hq.imp id SqD.t, fun l hn => post_new p S R hn⟩
theorem c_lenQ (O : XOk X G) : CRQ X G (.builtin "len") qLen := fun W pins s σ H vs us Q I rs ⟨v, φ, η, xs, e, S, ⟨a, ws, e2, hq, R⟩, p⟩ => by
  subst e; subst e2
  unfold qLen at p
  rw [frN_eq] at p
  refine call_len pins s σ H _ us Q I rs ⟨.ref a, xs.length, rfl, ?_, post_ok p S (.int _)⟩
  show (∃ xs, _ ∧ _) ∨ ∃ xs, _ ∧ _
  rcases hq with hq | hq
  · exact .inl ⟨ws, by rw [O.K]; exact hq, R.1⟩
  · exact .inr ⟨ws, by rw [O.K]; exact hq.t, R.1⟩
end
end FP
end
section
namespace FP
open PySem PySem.Spec PyProof.Rows L2 PySem.SeqAt

def tyNm : Nat → String
  | 0 => "NoneType" | 1 => "bool" | 2 => "int" | 3 => "str" | 4 => "tuple" | 5 => "list" | _ => "dict"
def isTy1 (t u : Nat) : Bool := match Nat.beq t u with
  | true => true
  | false => match Nat.beq t 1 with
    | true => Nat.beq u 2
    | false => false
theorem kitB_all : ∀ t : Fin 7, ∀ u : Fin 7, kitB (tyNm t.1) (tyNm u.1) = some (isTy1 t.1 u.1) := by decide +kernel
theorem kitB_of {t u : Nat} (ht : t < 7) (hu : u < 7) : kitB (tyNm t) (tyNm u) = some (isTy1 t u) := kitB_all ⟨t, ht⟩ ⟨u, hu⟩
section
variable {X : Cx} {G : Gd} {pins : List (Addr × Obj)} {σ : L2.St} {H : Hp} {s : Shared} {φ : List Addr} {η : He}
theorem kit_rv (O : XOk X G) (I : Inv X pins σ H s) (S : Sim G φ η H) {x : Vl} {v : V} {u : Value} (rx : RV G.K φ H x v) (r : RelV v u) (ht : tyOf η x < 7) :
    ∃ P : Heap → Prop, PySem.W.KitX X.K u (.type (tyNm (tyOf η x))) P ∧ P s.heap ∧ u ≠ .builtin "__main__.__loader__#opaque" := by
  cases rx with
  | non => exact kit_of I r (.base .non)
  | bl b => exact kit_of I r (.base (.bl b))
  | int i => exact kit_of I r (.base (.int i))
  | str z => exact kit_of I r (.base (.str _))
  | tup hq hl hx =>
    rcases hq with ⟨o, hq, _⟩ | ⟨o, its, n, hk, hc, _⟩
    · exact kit_of I r (.fTuple hq)
    · exact kit_of I r (.kTuple (by rw [O.K]; exact hk) hc)
  | fl hq hl hx =>
    rcases hq with ⟨o, hq⟩ | ⟨o, its, n, hk, hc, _⟩
    · exact kit_of I r (.base (.frz hq))
    · exact kit_of I r (.kList (by rw [O.K]; exact hk) hc)
  | @loc m a hn =>
    have ht' : (match η.get m with | some (.lst _) => 5 | some (.dic _ _) => 6 | _ => 7) < 7 := ht
    have goal' : ∃ P : Heap → Prop, PySem.W.KitX X.K u (.type (tyNm (match η.get m with | some (.lst _) => 5 | some (.dic _ _) => 6 | _ => 7))) P ∧ P s.heap ∧ u ≠ .builtin "__main__.__loader__#opaque" := by
      obtain ⟨o, ho, ro⟩ := S.ob m a hn
      simp only [ho] at ht' ⊢
      cases o with
      | lst xs => obtain ⟨vs, hH, _⟩ := ro; exact kit_of I r (.base (.lst hH))
      | ins c fs => exact absurd ht' (Nat.lt_irrefl 7)
      | dic lk es =>
        obtain ⟨w, hw, rd⟩ := ro
        obtain ⟨_, xs, rfl, _⟩ := rd
        have hd : ∃ o, s.heap.get? a = some o ∧ o.cls = .type "dict" := by
          cases lk with
          | false =>
            obtain ⟨o, es', ep, h1, h2, _⟩ := (show ObjOk X.prog X.w H s.heap a (.ext (DN G a xs)) from I.hok a _ hw).1
            exact ⟨o, h1, h2.1⟩
          | true =>
            obtain ⟨oo, hw⟩ := hw
            have h0 : ObjOk X.prog X.w H s.heap a (.frz oo (.ext (DN G a xs))) := I.hok a _ hw
            obtain ⟨o, es', ep, h1, h2, _⟩ := h0.2.1
            exact ⟨o, h1, h2.1⟩
        cases (show u = Value.ref a from r)
        exact ⟨_, PySem.W.kitx_dict, hd, fun z => nomatch z⟩
    exact goal'
theorem kitAny_of (K : PySem.W.Frag) {t : Nat} (ht : t < 7) : ∀ ks : List Nat, (∀ k ∈ ks, k < 7) → PySem.W.kitAny K (.type (tyNm t)) (ks.map fun k => .type (tyNm k)) = some (isTy t ks)
  | [], _ => rfl
  | k :: ks, h => by
    have e := kit_ty (K := K) (kitB_of ht (h k List.mem_cons_self))
    have ih := kitAny_of K ht ks fun k' m => h k' (List.mem_cons_of_mem _ m)
    show (match PySem.W.kitOne K (.type (tyNm t)) (.type (tyNm k)) with | some true => some true | some false => PySem.W.kitAny K (.type (tyNm t)) (ks.map fun k => .type (tyNm k)) | none => none) = some (isTy t (k :: ks))
    rw [e, ih]
    show _ = some (match Nat.beq t k with | true => true | false => (match Nat.beq t 1 with | true => (match Nat.beq k 2 with | true => true | false => isTy t ks) | false => isTy t ks))
    unfold isTy1
    cases Nat.beq t k with
    | true => rfl
    | false =>
      cases Nat.beq t 1 with
      | false => rfl
      | true => cases Nat.beq k 2 <;> rfl
/-- the classes' names -/
inductive TyEs (X : Cx) : List Expr → List Nat → Prop where
  | nil : TyEs X [] []
  | cons {nm : Str} {p : Pos} {k : Nat} {es : List Expr} {ks : List Nat} (B : Bn X nm (.type (tyNm k))) (h : k < 7) (t : TyEs X es ks) : TyEs X (.Name nm p :: es) (k :: ks)
theorem TyEs.noStar {es : List Expr} {ks : List Nat} (h : TyEs X es ks) : NoStar es := by
  induction h with
  | nil => exact fun e m => (nomatch m)
  | cons B h t ih =>
    intro e m
    rcases List.mem_cons.mp m with rfl | m
    · exact fun v p e => nomatch e
    · exact ih e m
theorem TyEs.pa {es : List Expr} {ks : List Nat} (h : TyEs X es ks) : PA X es fun σ H Q => Q (ks.map fun k => V.ty (tyNm k)) H := by
  induction h with
  | nil => exact pa_nil
  | cons B h t ih => exact pa_cons (pe_bltn (v := .ty (tyNm _)) B.g B.m B.v (show _ = _ from rfl) B.n B.d) ih (starEach_cons fun v p e => nomatch e)
theorem TyEs.small {es : List Expr} {ks : List Nat} (h : TyEs X es ks) : ∀ k ∈ ks, k < 7 := by
  induction h with
  | nil => exact fun e m => (nomatch m)
  | cons B h t ih =>
    intro k m
    rcases List.mem_cons.mp m with rfl | m
    · exact h
    · exact ih k m
theorem post_isi {W : Value → Option Addr → Hp → Prop} {x : Vl} {ks : List Nat} {Q : VK} (p : Post G (RVl G) W φ H (pIsinst ks x η) Q) (hx : ∀ z, x ≠ .exc z) : Post G (RVl G) W φ H (match Nat.blt (tyOf η x) 7 with | true => .ok (.bl (isTy (tyOf η x) ks)) η | false => .bad 63) Q := by
  cases x <;> first | exact p | exact absurd rfl (hx _)
theorem RV.notExc {K : PySem.W.Frag} {x : Vl} {v : V} (h : RV K φ H x v) : ∀ z, x ≠ .exc z := fun z e => by subst e; cases h
theorem kitOne_of (K : PySem.W.Frag) {t k : Nat} (ht : t < 7) (hk : k < 7) : PySem.W.kitOne K (.type (tyNm t)) (.type (tyNm k)) = some (isTy t [k]) := by
  rw [kit_ty (K := K) (kitB_of ht hk)]
  show some (isTy1 t k) = some (match Nat.beq t k with | true => true | false => (match Nat.beq t 1 with | true => (match Nat.beq k 2 with | true => true | false => false) | false => false))
  unfold isTy1
  cases Nat.beq t k <;> cases Nat.beq t 1 <;> cases Nat.beq k 2 <;> rfl
theorem s_isi1 (O : XOk X G) {nm : Str} {k : Nat} {a : Expr} {f : EvE} {np p' pos : Pos} (B : Bn X "isinstance" (.builtin "isinstance")) (BT : Bn X nm (.type (tyNm k))) (hk : k < 7) (hn : ∀ v p, a ≠ .Starred v p) (ha : SE X G a f) :
    SE X G (.Call (.Name "isinstance" np) [a, .Name nm p'] [] pos) (e1 (pIsinst [k]) f) := fun W tk => by
  have hc : CallR X (.builtin "isinstance") (fun vs H Q => ∃ (v : V) (φ : List Addr) (η : He) (x : Vl), vs = [v, .ty (tyNm k)] ∧ Sim G φ η H ∧ RV G.K φ H x v ∧ tyOf η x < 7 ∧ Q (.bl (isTy (tyOf η x) [k])) H) := by
    intro pins s σ H xs us Q I r ⟨v, φ, η, x, e, S, rx, ht, q⟩
    subst e
    obtain ⟨u1, u2, rfl, r1, r2⟩ := vals2 r
    cases (show u2 = Value.type (tyNm k) from r2)
    obtain ⟨P, Z, p, hx⟩ := kit_rv O I S rx r1 ht
    exact PySem.W.kia_one Z I.kIn p (kitOne_of X.K ht hk) hx fun tk => ⟨.bl _, H, I.tok tk, rfl, q⟩
  refine ⟨fun pins s σ H Q I h => (pe_callU B (.inl ⟨_, rfl⟩) hc (pa_cons (ha W tk) (pa_cons (pe_bltn (v := .ty (tyNm k)) BT.g BT.m BT.v (show _ = _ from rfl) BT.n BT.d) pa_nil (starEach_cons fun v p e => nomatch e)) (starEach_cons hn)) (NoStar.two hn fun v p e => nomatch e)).run pins s σ H Q I ?_⟩
  refine (one h).imp ?_
  rintro v H1 ⟨φ, η, x, S, R, p⟩
  have p' := post_isi p R.notExc
  cases hb : Nat.blt (tyOf η x) 7 with
  | false => simp only [hb] at p'; exact p'.elim
  | true =>
    simp only [hb] at p'
    exact ⟨v, φ, η, x, rfl, S, R, blt_lt hb, post_ok p' S (.bl _)⟩
theorem tyVals : ∀ (ks : List Nat) (its : List Value), Vals (ks.map fun k => V.ty (tyNm k)) its → its = ks.map fun k => Value.type (tyNm k)
  | [], its, rv => by cases rv; rfl
  | k :: ks, its, rv => by cases rv with | cons r t => rw [tyVals ks _ t]; cases (show _ = Value.type _ from r); rfl
theorem s_isiT (O : XOk X G) {es : List Expr} {ks : List Nat} {a : Expr} {f : EvE} {np tpos pos : Pos} {m : Nat} (B : Bn X "isinstance" (.builtin "isinstance")) (hes : TyEs X es ks) (hl : es.length ≤ 10000) (hn : ∀ v p, a ≠ .Starred v p) (ha : SE X G a f) :
    SE X G (.Call (.Name "isinstance" np) [a, .Tuple es m tpos] [] pos) (e1 (pIsinst ks) f) := fun W tk => by
  have hlen : ks.length = es.length := by clear hl; induction hes with | nil => rfl | cons _ _ _ ih => simp [ih]
  have hc : CallR X (.builtin "isinstance") (fun vs H Q => ∃ (v : V) (tp : Addr) (φ : List Addr) (η : He) (x : Vl), vs = [v, .ref tp] ∧ H tp = some (.tup (ks.map fun k => V.ty (tyNm k))) ∧ Sim G φ η H ∧ RV G.K φ H x v ∧ tyOf η x < 7 ∧ Q (.bl (isTy (tyOf η x) ks)) H) := by
    intro pins s σ H xs us Q I r ⟨v, tp, φ, η, x, e, hT, S, rx, ht, q⟩
    subst e
    obtain ⟨u1, u2, rfl, r1, r2⟩ := vals2 r
    cases (show u2 = Value.ref tp from r2)
    obtain ⟨P, Z, p, hx⟩ := kit_rv O I S rx r1 ht
    obtain ⟨_, its, rv, o, h1, h2, n, h3⟩ := (show ObjOk X.prog X.w H s.heap tp (.tup _) from I.hok tp _ hT)
    have e3 := tyVals ks its rv
    subst e3
    obtain ⟨oc, od, dt, sl⟩ := o
    simp only at h2 h3
    subst h2 h3
    exact PySem.W.kia_tup Z I.kIn p h1 (kitAny_of X.K ht ks hes.small) hx fun tk => ⟨.bl _, H, I.tok tk, rfl, q⟩
  refine ⟨fun pins s σ H Q I h => (pe_callU B (.inl ⟨_, rfl⟩) hc (pa_cons (ha W tk) (pa_cons (pe_tup hes.pa) pa_nil (starEach_cons fun v p e => nomatch e)) (starEach_cons hn)) (NoStar.two hn fun v p e => nomatch e)).run pins s σ H Q I ?_⟩
  refine (one h).imp ?_
  rintro v H1 ⟨φ, η, x, S, R, p⟩
  have p' := post_isi p R.notExc
  cases hb : Nat.blt (tyOf η x) 7 with
  | false => simp only [hb] at p'; exact p'.elim
  | true =>
    simp only [hb] at p'
    refine ⟨by rw [List.length_map, hlen]; exact line1000 hl, fun q hq => ?_⟩
    exact ⟨v, q, φ, η, x, rfl, upd_same, S.upd hq, R.evo (Evo.upd hq) S.trk, blt_lt hb, p' φ _ _ (Evo.upd hq) (S.upd hq) (.bl _)⟩
end
end FP
end
section
namespace FPX
open PySem PySem.Spec PyProof.Rows L2

section
variable {prog : Program} {w : World} {A : Around} {E : Value → Shared → Prop} {s : Shared}
theorem places_rev (n : Nat) : Builtin.Slice.slicePlaces ((n : Int) - 1) (-1) (-1) = n := by
  unfold Builtin.Slice.slicePlaces
  have h1 : ¬ ((-1 : Int) > 0) := by omega
  simp only [h1, if_false, show (-(-1) : Int) = 1 from rfl, Int.ediv_one]
  split <;> omega
theorem applied_rev {sl : Addr} {vl vu vs : Value} {n : Nat} {Q : Int × Int × Nat → Shared → Prop} (hs : s.heap.IsSliceOf sl vl vu vs) (pl : IsPart vl none) (pu : IsPart vu none) (ps : IsPart vs (some (-1)))
    (h : Q ((n : Int) - 1, -1, n) s) : wpAny (model prog w) A (Builtin.Slice.sliceApplied (.ref sl) (pure (n : Int))) Q E s := by
  obtain ⟨os, hos, hcs, hds⟩ := id hs
  unfold Builtin.Slice.sliceApplied Builtin.Slice.sliceFields
  refine wpAny_bind (wpAny_bind (wpAny_field hos hds (x := vl) rfl (wpAny_bind (wpAny_field hos hds (x := vu) rfl (wpAny_bind (wpAny_field hos hds (x := vs) rfl (wpAny_pure ?_)))))))
  refine wpAny_bind (HT.slicePart_ ps ?_)
  show wpAny _ _ (if ((-1 : Int) == 0) = true then _ else _) _ _ s
  rw [if_neg (by decide)]
  refine wpAny_bind (HT.slicePart_ pl (wpAny_bind (HT.slicePart_ pu (wpAny_bind (wpAny_pure ?_)))))
  show wpAny _ _ (pure (((n : Int) - 1), (-1 : Int), Builtin.Slice.slicePlaces ((n : Int) - 1) (-1) (-1))) _ _ s
  rw [places_rev]
  exact wpAny_pure h
theorem fmCongr {α β : Type} {f g : α → Option β} : ∀ {xs : List α}, (∀ x ∈ xs, f x = g x) → xs.filterMap f = xs.filterMap g
  | [], _ => rfl
  | x :: xs, h => by rw [List.filterMap_cons, List.filterMap_cons, h x List.mem_cons_self, fmCongr fun y m => h y (List.mem_cons_of_mem _ m)]
theorem pick_rev (xs : Array Value) : ((List.range xs.size).filterMap fun (m : Nat) => xs[(((xs.size : Int) - 1) + (m : Int) * (-1)).toNat]?).toArray = xs.toList.reverse.toArray := by
  congr 1
  refine List.ext_getElem? fun i => ?_
  have hmap : (List.range xs.size).filterMap (fun (m : Nat) => xs[(((xs.size : Int) - 1) + (m : Int) * (-1)).toNat]?) = (List.range xs.size).map fun m => xs.toList.reverse.getD m .none := by
    rw [← List.filterMap_eq_map]
    refine fmCongr fun m hm => ?_
    have hm := List.mem_range.mp hm
    have e : (((xs.size : Int) - 1) + (m : Int) * (-1)).toNat = xs.size - 1 - m := by omega
    rw [e]
    have h1 : xs[xs.size - 1 - m]? = xs.toList.reverse[m]? := by
      rw [List.getElem?_reverse (by simpa using hm)]
      simp
    rw [h1, List.getElem?_eq_getElem (by simpa using hm)]
    simp [List.getD_eq_getElem?_getD, hm]
  rw [hmap]
  by_cases hi : i < xs.size
  · rw [List.getElem?_map, List.getElem?_range hi]
    simp [List.getD_eq_getElem?_getD, hi]
  · rw [List.getElem?_eq_none (by simp; omega), List.getElem?_eq_none (by simp; omega)]
theorem getItem_tuple_rev {t sl : Addr} {items : Array Value} {vl vu vs : Value} {Q : Value → Shared → Prop} (ht : IsTup s.heap t items) (hs : s.heap.IsSliceOf sl vl vu vs) (pl : IsPart vl none) (pu : IsPart vu none) (ps : IsPart vs (some (-1)))
    (h : Q (.ref s.heap.objs.size) { s with heap := s.heap.push { cls := .type "tuple", data := .seq items.toList.reverse.toArray } })
    (hsz : items.size ≤ sizeLine) : wpAny (model prog w) A (getItem (.ref t) (.ref sl)) Q E s := by
  have hrev : sizeOk (.seq items.toList.reverse.toArray) := by
    show items.toList.reverse.toArray.size ≤ sizeLine
    rw [List.size_toArray, List.length_reverse, Array.length_toList]
    exact hsz
  obtain ⟨os, hos, hcs, hds⟩ := id hs
  have hTs : s.TypeIs (.ref sl) "slice" := ⟨os, hos, hcs⟩
  unfold getItem
  try with_reducible refine wpAny_holding ?_
  first | refine wpAny_bind (wpAny_pure ?_) | skip
  refine wpAny_bind (wpAny_sequenceKey ht.typeIs (by decide) ?_)
  refine wpAny_bind (wpAny_callSpecial?_slot (name := Str.ofString "__getitem__") ht.typeIs PyProof.Rows.slot_tuple_getitem
    (wpAny_call_entry PyProof.Rows.slot_tuple_getitem ht.typeIs entry_tuple_getitem ?_ (args_tuple_getitem _ _)))
  show wpAny _ _ (Builtin.Tuple.tupleItemsOf (.ref t) >>= _) _ _ s
  refine wpAny_bind (tupleItemsOf_ ht ?_)
  refine wpAny_bind (wpAny_typeOf hTs ?_)
  rw [if_pos (by decide)]
  refine wpAny_bind (applied_rev hs pl pu ps ?_)
  have hno : ¬ ((((items.size : Int) - 1) == 0 && (-1 : Int) == 1 && items.size == items.size) = true) := by
    intro q
    rw [Bool.and_eq_true, Bool.and_eq_true] at q
    exact absurd (eq_of_beq q.1.2) (by decide)
  show wpAny _ _ (if (((items.size : Int) - 1) == 0 && (-1 : Int) == 1 && items.size == items.size) = true then _ else _) _ _ s
  rw [if_neg hno, pick_rev]
  first
    | exact wpAny_bind (m := Builtin.Tuple.tupleExact _) (wpAny_newObj_type (wpAny_pure ⟨_, rfl, wpAny_pure h⟩) hrev)
    | exact wpAny_bind (m := Builtin.Tuple.tupleExact _) (wpAny_newObj_type (wpAny_bind (wpAny_pure (wpAny_pure ⟨_, rfl, wpAny_pure h⟩))) hrev)
    | exact wpAny_bind (wpAny_bind (m := Builtin.Tuple.tupleExact _) (wpAny_newObj_type (wpAny_pure (wpAny_pure ⟨_, rfl, wpAny_pure h⟩)) hrev))
    | exact wpAny_bind (wpAny_bind (m := Builtin.Tuple.tupleExact _) (wpAny_newObj_type (wpAny_pure ⟨_, rfl, wpAny_pure h⟩) hrev))
end
end FPX
namespace FP
open PySem PySem.Spec PyProof.Rows L2 PySem.SeqAt

theorem nth_eq {α : Type} : ∀ (xs : List α) (n : Nat), nth xs n = xs[n]?
  | [], n => by simp [nth]
  | x :: xs, 0 => rfl
  | x :: xs, n + 1 => by show nth xs n = _; rw [nth_eq xs n]; simp
theorem nthI_eq {α : Type} (xs : List α) (i : Int) : nthI xs i = atI xs i := by
  unfold atI ixN nthI
  cases i with
  | ofNat k =>
    have h0 : (0 : Int) ≤ Int.ofNat k := Int.natCast_nonneg k
    rw [if_pos h0]
    show nth xs k = (if ((k : Nat) : Int) < (xs.length : Int) then some k else none).bind fun j => xs[j]?
    by_cases hk : k < xs.length
    · rw [if_pos (by omega)]
      exact nth_eq xs k
    · rw [if_neg (by omega), nth_eq, List.getElem?_eq_none (by omega)]; rfl
  | negSucc k =>
    have h0 : ¬ (0 : Int) ≤ Int.negSucc k := by have := Int.negSucc_lt_zero k; omega
    rw [if_neg h0]
    show nth xs.reverse k = _
    rw [nth_eq]
    by_cases hk : k < xs.length
    · rw [if_pos (by rw [Int.negSucc_eq]; omega), List.getElem?_reverse hk]
      show _ = xs[(Int.negSucc k + (xs.length : Int)).toNat]?
      congr 1
      rw [Int.negSucc_eq]; omega
    · rw [if_neg (by rw [Int.negSucc_eq]; omega), List.getElem?_eq_none (by simpa using hk)]; rfl
theorem RVs.atI {K : PySem.W.Frag} {φ : List Addr} {H : Hp} {xs : List Vl} {vs : List V} (R : RVs K φ H xs vs) {i : Int} {x : Vl} (h : nthI xs i = some x) : ∃ v, L2.atI vs i = some v ∧ RV K φ H x v := by
  rw [nthI_eq] at h
  unfold L2.atI at h ⊢
  rw [← R.1]
  cases hj : ixN xs.length i with
  | none => rw [hj] at h; cases h
  | some j =>
    rw [hj] at h
    obtain ⟨v, h1, h2⟩ := R.get (show xs[j]? = some x from h)
    exact ⟨v, h1, h2⟩
section
variable {X : Cx} {G : Gd}
def IX2 (X : Cx) (G : Gd) (p : P2) : Prop := ∀ W : Value → Option Addr → Hp → Prop, IxR X fun v w H Q => ∃ φ η x y, Sim G φ η H ∧ RV G.K φ H x v ∧ RV G.K φ H y w ∧ Post G (RVl G) W φ H (p x y η) Q
theorem s_ix {a b : Expr} {fa fb : EvE} {p : P2} {pos : Pos} (hp : IX2 X G p) (ha : SE X G a fa) (hb : SE X G b fb) (hs : PlainIx b) : SE X G (.Subscript a b pos) (e2 p fa fb) := fun W tk =>
  ⟨fun pins s σ H Q I h => (pe_ix (hp fun c d H' => W c d σ H') (ha W tk) (hb W tk) hs).run pins s σ H Q I (two h)⟩
/-- a list's or tuple's or text's item -/
theorem ix_seq1 (O : XOk X G) {W : Value → Option Addr → Hp → Prop} {value slice : Expr} {pins : List (Addr × Obj)} {s : Shared} {σ : L2.St} {H : Hp} {φ : List Addr} {η : He} {xs : List Vl} {a : Addr} {vs : List V} {y : Vl} {w : V} {u1 u2 : Value} {Q : VK}
    (I : Inv X pins σ H s) (S : Sim G φ η H) (r1 : RelV (.ref a) u1) (r2 : RelV w u2) (hq : SqL G.K H a vs ∨ SqD G.K H a vs) (R : RVs G.K φ H xs vs) (ry : RV G.K φ H y w)
    (p : Post G (RVl G) W φ H (match y with | .int i => (match nthI xs i with | some v => .ok v η | none => .bad 101) | _ => .bad 103) Q)
    (hs : subscripted slice false u1 u2 = operate [u1, u2] (getItem u1 u2)) : wpAny (model X.prog X.w) X.A (subscriptTail value slice u1 u2) (EP X pins σ Q) X.xe s := by
  cases ry with
  | int i =>
    cases hn : nthI xs i with
    | none => simp only [hn] at p; exact p.elim
    | some x =>
      simp only [hn] at p
      obtain ⟨v, h1, h2⟩ := R.atI hn
      rcases hq with hq | hq
      · exact ix_list value slice pins s σ H _ _ _ _ Q I r1 r2 ⟨a, vs, i, v, rfl, rfl, by rw [O.K]; exact hq, h1, post_ok p S h2⟩ hs
      · exact ix_tup value slice pins s σ H _ _ _ _ Q I r1 r2 ⟨a, vs, i, v, rfl, rfl, by rw [O.K]; exact hq.t, h1, post_ok p S h2⟩ hs
  | _ => exact p.elim

theorem po_any {e : Expr} {te : TE} (h : PE X e te) : PO X (some e) (fun σ H Q => te σ H fun x H1 => (x = .non ∧ Q none H1) ∨ ∃ i, x = .int i ∧ Q (some i) H1) := by
  refine ⟨fun pins s σ H Q I hw => ?_⟩
  rw [evalPart_some]
  refine thn (h.run pins s σ H _ I hw) fun u s1 ⟨x, H1, I1, r1, q1⟩ => ?_
  rcases q1 with ⟨rfl, q⟩ | ⟨i, rfl, q⟩
  · cases (show u = Value.none from r1); exact ⟨none, H1, I1, .none, q⟩
  · obtain ⟨t, rfl⟩ := r1
    exact ⟨some i, H1, I1, .int i t, q⟩
/-- a part of a slice: given or not -/
def SO (X : Cx) (G : Gd) (e : Option Expr) (f : EvE) : Prop := match e with
  | none => f = eCst .non
  | some e => SE X G e f
theorem so_po {e : Option Expr} {f : EvE} (h : SO X G e f) {W : WX} (tk : Takes X W) : PO X e (fun σ H Q => rd G X.N.length (RVl G) W f σ H fun x H1 => (x = .non ∧ Q none H1) ∨ ∃ i, x = .int i ∧ Q (some i) H1) := by
  cases e with
  | none =>
    cases (show f = eCst .non from h)
    refine ⟨fun pins s σ H Q I ⟨φ, η, r, S, E, p⟩ => ?_⟩
    rcases p φ H .non Evo.refl S .non with ⟨_, q⟩ | ⟨i, q, _⟩
    · exact po_none.run pins s σ H Q I q
    · cases q
  | some e => exact po_any ((show SE X G e f from h) W tk)
theorem optI_rel {φ : List Addr} {H : Hp} {y : Vl} {w : V} {o : Option Int} (ry : RV G.K φ H y w) (h : optI y = some o) : (w = .non ∧ o = none) ∨ ∃ i, w = .int i ∧ o = some i := by
  cases ry with
  | non => cases h; exact .inl ⟨rfl, rfl⟩
  | int i => cases h; exact .inr ⟨i, rfl, rfl⟩
  | _ => cases h
theorem clip_eq (i : Int) (n d : Nat) : clip i n = HT.sIx n d (some i) := by
  cases i with
  | ofNat k =>
    show Nat.min k n = if ((k : Nat) : Int) < 0 then (((k : Nat) : Int) + (n : Int)).toNat else min ((k : Nat) : Int).toNat n
    rw [if_neg (by omega), Int.toNat_natCast]
  | negSucc k =>
    show n - (k + 1) = if Int.negSucc k < 0 then (Int.negSucc k + (n : Int)).toNat else min (Int.negSucc k).toNat n
    rw [if_pos (Int.negSucc_lt_zero k), Int.negSucc_eq]
    omega
theorem cutL_eq {α : Type} (xs : List α) (lo hi : Option Int) : cutL xs lo hi = (xs.drop (HT.sIx xs.length 0 lo)).take (HT.sIx xs.length xs.length hi - HT.sIx xs.length 0 lo) := by
  unfold cutL
  cases hi with
  | none => cases lo with
    | none =>
      show xs = (xs.drop 0).take (xs.length - 0)
      rw [List.drop_zero, Nat.sub_zero, List.take_length]
    | some i =>
      show xs.drop (clip i xs.length) = _
      rw [clip_eq i xs.length 0, HT.sIx_none, List.take_of_length_le (by rw [List.length_drop]; exact Nat.le_refl _)]
  | some j => cases lo with
    | none =>
      show xs.take (clip j xs.length) = _
      rw [clip_eq j xs.length xs.length, HT.sIx_none, List.drop_zero, Nat.sub_zero]
    | some i =>
      show (xs.take (clip j xs.length)).drop (clip i xs.length) = _
      rw [clip_eq j xs.length xs.length, clip_eq i xs.length 0, List.drop_take]
theorem RVs.cut {K : PySem.W.Frag} {φ : List Addr} {H : Hp} {xs : List Vl} {vs : List V} (R : RVs K φ H xs vs) (lo hi : Option Int) : RVs K φ H (cutL xs lo hi) (cutV vs lo hi) := by
  rw [cutL_eq]
  unfold cutV
  rw [← R.1]
  exact (R.drop _).take _
/-- t[lo:hi] -/
def rSlF (K : PySem.W.Frag) : V → Option Int → Option Int → Hp → VK → Prop := fun x lo hi H Q => ∃ a xs, x = .ref a ∧ SqT K H a xs ∧
  (HT.sIx xs.length 0 lo = 0 ∧ HT.sIx xs.length xs.length hi = xs.length → Q (.ref a) H) ∧ (¬ (HT.sIx xs.length 0 lo = 0 ∧ HT.sIx xs.length xs.length hi = xs.length) → NewT H (cutV xs lo hi) Q)
theorem sl_tupF : L2.SlR X (rSlF X.K) := by
  intro pins s σ H x v vl vu lo hi sl Q I rx hs pl pu h
  obtain ⟨a, xs, rfl, hx, q1, q2⟩ := h
  cases rx
  obtain ⟨its, r, ht, hz⟩ := I.tuple hx
  have hlen : its.toArray.size = xs.length := by rw [List.size_toArray]; exact r.length.symm
  refine ⟨"tuple", _, PyProof.Rows.slot_tuple_getitem.lookup, ht.typeIs, ?_⟩
  by_cases hw : HT.sIx xs.length 0 lo = 0 ∧ HT.sIx xs.length xs.length hi = xs.length
  · exact getItem_tuple_whole ht hs pl pu (by rw [hlen]; exact hw) ⟨.ref a, H, I, rfl, q1 hw⟩
  · refine HT.getItem_tuple_cut ht hs pl pu (by rw [hlen]; exact hw) ?_ (by rw [hlen]; exact hz)
    rw [hlen]
    exact laidT I ((r.drop (HT.sIx xs.length 0 lo)).take (HT.sIx xs.length xs.length hi - HT.sIx xs.length 0 lo)) (Nat.le_trans (cutV_length xs lo hi) hz) (q2 hw)
theorem cut_whole {α : Type} (xs : List α) (lo hi : Option Int) (h : HT.sIx xs.length 0 lo = 0 ∧ HT.sIx xs.length xs.length hi = xs.length) : cutL xs lo hi = xs := by
  rw [cutL_eq, h.1, h.2, List.drop_zero, Nat.sub_zero, List.take_length]
theorem sl_all (O : XOk X G) (W : Value → Option Addr → Hp → Prop) : L2.SlR X (fun v lo hi H Q => ∃ φ η x, Sim G φ η H ∧ RV G.K φ H x v ∧ Post G (RVl G) W φ H (pSl x lo hi η) Q) := by
  intro pins s σ H v u vl vu lo hi sl Q I rv hs pl pu ⟨φ, η, x, S, rx, p⟩
  unfold pSl at p
  cases rx with
  | @tup xs a vs hq hl hx =>
    have R : RVs G.K φ H xs vs := ⟨hl, hx⟩
    refine sl_tupF pins s σ H _ u vl vu lo hi sl Q I rv hs pl pu ⟨a, vs, rfl, by rw [O.K]; exact hq.t, fun hw => ?_, fun hw => post_tup p S (R.cut lo hi)⟩
    have e := cut_whole xs lo hi (by rw [hl]; exact hw)
    simp only [e] at p
    exact post_ok p S (.tup hq hl hx)
  | @fl xs a vs hq hl hx =>
    have R : RVs G.K φ H xs vs := ⟨hl, hx⟩
    exact sl_list pins s σ H _ u vl vu lo hi sl Q I rv hs pl pu ⟨a, vs, rfl, by rw [O.K]; exact hq.l, fun q hp => post_new p S (R.cut lo hi) hp⟩
  | str t =>
    simp only at p
    cases hb : Nat.ble t.length 10000 with
    | false => simp only [hb] at p; exact p.elim
    | true =>
      simp only [hb] at p
      refine sl_str pins s σ H _ u vl vu lo hi sl Q I rv hs pl pu ⟨strOf t, rfl, line1000 (Nat.le_of_ble_eq_true hb), ?_⟩
      have e : cutS (strOf t) lo hi = strOf (cutL t lo hi) := by
        rw [cutL_eq]; rfl
      rw [e]
      exact post_ok p S (.str _)
  | @loc m a hn =>
    simp only at p
    cases hg : η.get m with
    | none => simp only [hg] at p; exact p.elim
    | some o =>
      cases o with
      | dic _ _ => simp only [hg] at p; exact p.elim
      | ins _ _ => simp only [hg] at p; exact p.elim
      | lst xs =>
        simp only [hg] at p
        obtain ⟨vs, hH, R⟩ := locList S hn hg
        exact sl_list pins s σ H _ u vl vu lo hi sl Q I rv hs pl pu ⟨a, vs, rfl, SqL.of hH, fun q hp => post_new p S (R.cut lo hi) hp⟩
  | _ => exact p.elim
theorem s_slice (O : XOk X G) {e : Expr} {lo hi : Option Expr} {f fl fh : EvE} {p2 pos : Pos} (he : SE X G e f) (hl : SO X G lo fl) (hh : SO X G hi fh) : SE X G (.Subscript e (.Slice lo hi none p2) pos) (eSlice f fl fh) := fun W tk => by
  refine ⟨fun pins s σ H Q I h => (pe_slice (sl_all O fun c d H' => W c d σ H') (he W tk) (so_po hl tk) (so_po hh tk)).run pins s σ H Q I ?_⟩
  refine (rd_bind (R := RVl G) (k := fun v r h => (fl r h).bind fun w h => match optI w with | some i => (fh r h).bind fun u h => (match optI u with | some j => pSl v i j h | none => .bad 116) | none => .bad 116) h).imp ?_
  rintro v H1 ⟨φ1, η1, r1, x, S1, E1, R1, p1⟩
  refine (post_bind (R := RVl G) (fa := fl) (k := fun w h => match optI w with | some i => (fh r1 h).bind fun u h => (match optI u with | some j => pSl x i j h | none => .bad 116) | none => .bad 116) S1 E1 p1).imp ?_
  rintro w H2 ⟨φ2, η2, y, ev, S2, E2, R2, p2⟩
  cases ho : optI y with
  | none => simp only [ho] at p2; exact p2.elim
  | some lo =>
    simp only [ho] at p2
    have go : rd G X.N.length (RVl G) W fh σ H2 fun u H3 => (u = .non ∧ (∃ φ η x, Sim G φ η H3 ∧ RV G.K φ H3 x v ∧ Post G (RVl G) (fun c d H' => W c d σ H') φ H3 (pSl x lo none η) Q)) ∨ ∃ i, u = .int i ∧ (∃ φ η x, Sim G φ η H3 ∧ RV G.K φ H3 x v ∧ Post G (RVl G) (fun c d H' => W c d σ H') φ H3 (pSl x lo (some i) η) Q) := by
      refine (post_bind (R := RVl G) (fa := fh) (k := fun u h => match optI u with | some j => pSl x lo j h | none => .bad 116) S2 E2 p2).imp ?_
      rintro u H3 ⟨φ3, η3, z, ev3, S3, E3, R3, p3⟩
      cases hz : optI z with
      | none => simp only [hz] at p3; exact p3.elim
      | some hi =>
        simp only [hz] at p3
        have rx := (R1.evo ev S1.trk).evo ev3 S2.trk
        rcases optI_rel R3 hz with ⟨e1, e2⟩ | ⟨i, e1, e2⟩
        · subst e2; exact .inl ⟨e1, φ3, η3, x, S3, rx, p3⟩
        · subst e2; exact .inr ⟨i, e1, φ3, η3, x, S3, rx, p3⟩
    rcases optI_rel R2 ho with ⟨e1, e2⟩ | ⟨i, e1, e2⟩
    · subst e2; exact .inl ⟨e1, go⟩
    · subst e2; exact .inr ⟨i, e1, go⟩
def tRevF (K : PySem.W.Frag) (te : TE) : TE := fun σ H Q => te σ H fun x H1 => ∃ a xs, x = .ref a ∧ ((SqL K H1 a xs ∧ ∀ p, H1 p = none → Q (.ref p) (upd H1 p (.lst xs.reverse))) ∨ (SqT K H1 a xs ∧ NewT H1 xs.reverse Q))
theorem pe_revF {e : Expr} {te : TE} {k : Nat} {p1 p2 p3 pos : Pos} (he : PE X e te) : PE X (.Subscript e (.Slice none none (some (.UnaryOp .USub (.Constant (.int 1) k p1) p2)) p3) pos) (tRevF X.K te) := by
  refine ⟨fun pins s σ H Q I h => ?_⟩
  refine Subscript_ (thn (he.run pins s σ H _ I h) fun v s1 ⟨x, H1, I1, r1, q1⟩ => ?_)
  obtain ⟨a, xs, ex, q⟩ := q1
  subst ex
  cases r1
  have hst : PO X (some (.UnaryOp .USub (.Constant (.int 1) k p1) p2)) (tPart (tUn (rU fun i => .int (-i)) (tC (.int 1)))) := po_some (pe_un un_neg pe_int)
  refine wpAny_Slice (thn (po_none.run pins s1 σ H1 (fun o H2 => o = none ∧ H2 = H1) I1 ⟨rfl, rfl⟩) fun vl s2 ⟨l, H2, I2, pl, el, e2⟩ => ?_)
  subst el e2
  refine thn (po_none.run pins s2 σ H2 (fun o H3 => o = none ∧ H3 = H2) I2 ⟨rfl, rfl⟩) fun vu s3 ⟨u, H3, I3, pu, eu, e3⟩ => ?_
  subst eu e3
  refine thn (hst.run pins s3 σ H3 (fun o H4 => o = some (-1) ∧ H4 = H3) I3 ⟨1, rfl, -1, rfl, rfl, rfl⟩) fun vs s4 ⟨o, H4, I4, ps, eo, e4⟩ => ?_
  subst eo e4
  have I5 : Inv X pins σ H4 { s4 with heap := s4.heap.push { cls := .type "slice", data := .fields #[vl, vu, vs] } } := I4.kept (t' := s4.toks) fun b ob q => Heap.get?_push_of_some _ q
  rcases q with ⟨hx, q⟩ | ⟨hx, q⟩
  · obtain ⟨its, r, ht, hz⟩ := I5.list hx
    have hlen := r.length
    refine tail_any (ops := [.ref a, .ref s4.heap.objs.size]) ht.isList.typeIs (PySem.slot_list_getitem.lookup) ?_ (by with_unfolding_all rfl)
    refine wpAny_getItem_list_slice ht.isList (Heap.IsSliceOf.new _ vl vu vs) pl pu ps (by decide) ?_ (by rw [List.size_toArray]; omega)
    rw [PySem.W.krv_pick]
    refine ⟨.ref _, _, I5.laid (t' := s4.toks) (o := .lst xs.reverse) (fun b ob q => Heap.get?_push_of_some _ q) (Nat.le_refl _) ?_, rfl, q _ (I5.hok.fresh (Nat.le_refl _))⟩
    exact ⟨by rw [List.length_reverse]; exact hz, _, 0, r.reverse, Heap.get?_push_size _ rfl⟩
  · obtain ⟨its, r, ht, hz⟩ := I5.tuple hx
    have hlen := r.length
    refine tail_any (ops := [.ref a, .ref s4.heap.objs.size]) ht.typeIs (PyProof.Rows.slot_tuple_getitem.lookup) ?_ (by with_unfolding_all rfl)
    refine FPX.getItem_tuple_rev ht (Heap.IsSliceOf.new _ vl vu vs) pl pu ps ?_ (by rw [List.size_toArray]; omega)
    exact laidT I5 r.reverse (by rw [List.length_reverse]; exact hz) q
theorem s_rev (O : XOk X G) {e : Expr} {f : EvE} {k : Nat} {p1 p2 p3 pos : Pos} (he : SE X G e f) : SE X G (.Subscript e (.Slice none none (some (.UnaryOp .USub (.Constant (.int 1) k p1) p2)) p3) pos) (e1 pRev f) := fun W tk => by
  refine peWeak (pe_revF (he W tk)) fun σ H Q q => (one q).imp ?_
  rintro v H1 ⟨φ, η, x, S, R, p⟩
  unfold pRev at p
  cases R with
  | @tup xs a vs hq hl hx => exact ⟨a, vs, rfl, .inr ⟨by rw [O.K]; exact hq.t, post_tup p S (RVs.reverse ⟨hl, hx⟩)⟩⟩
  | @loc m a hn =>
    simp only at p
    cases hg : η.get m with
    | none => simp only [hg] at p; exact p.elim
    | some o =>
      cases o with
      | dic _ _ => simp only [hg] at p; exact p.elim
      | ins _ _ => simp only [hg] at p; exact p.elim
      | lst xs =>
        simp only [hg] at p
        obtain ⟨vs, hH, R⟩ := locList S hn hg
        exact ⟨a, vs, rfl, .inl ⟨SqL.of hH, fun q hp => post_new p S R.reverse hp⟩⟩
  | _ => exact p.elim
end
end FP
end
section
namespace FP
open PySem PySem.Spec PyProof.Rows L2 PySem.SeqAt

section
variable {X : Cx} {G : Gd}
def plainBase : Expr → Bool
  | .Call (.Name _ _) [] [] _ => false
  | _ => true
theorem base_of {o : Expr} {attr : Str} {env : PySem.Env} {whole : Sem Value} (h : plainBase o = true) : attributeBase o attr env whole = whole := by
  unfold attributeBase
  split
  · cases h
  · rfl
theorem few_of : ∀ {es : List Expr} {env : PySem.Env} {pos : Pos}, NoStar es → (backTo pos (starEach es env)).all (fun x => !x.1) = true
  | [], _, _, _ => rfl
  | e :: es, env, pos, h => by
    rw [starEach_cons (h e List.mem_cons_self), backTo_cons]
    show (!false && (backTo pos (starEach es env)).all fun x => !x.1) = true
    rw [few_of fun e' m => h e' (List.mem_cons_of_mem _ m)]; rfl
/-- a method of a built-in kind, with what the receiver's kind is -/
structure Mth (X : Cx) (T : String) (name : Str) (id : String) (r : V → List V → Hp → VK → Prop) : Prop where
  pa : PlainAttrs T
  slot : Slot T name id
  ty : typeOf (.builtin id) = pure (.type "method_descriptor")
  run : MtR X id r
/-- a value of that kind, without a dict of its own -/
def KindV (K : PySem.W.Frag) (T : String) (x : V) (H : Hp) : Prop := tyV K T x H ∨ (T = "tuple" ∧ ∃ a xs, x = .ref a ∧ SqD K H a xs) ∨ (T = "dict" ∧ ∃ a φ, x = .ref a ∧ H a = some (.ext φ) ∧ ∀ h, φ h → ∃ o, h.get? a = some o ∧ o.ExactDict)
theorem KindV.is {pins : List (Addr × Obj)} {σ : L2.St} {H : Hp} {s : Shared} {T : String} {x : V} {v : Value} (I : Inv X pins σ H s) (r : RelV x v) (ty : KindV X.K T x H) :
    s.TypeIs v T ∧ ∀ a, v = .ref a → ∃ ob, s.heap.get? a = some ob ∧ ob.dict = none := by
  rcases ty with ty | ⟨rfl, a, xs, rfl, hq⟩ | ⟨rfl, a, φ, rfl, hq, he⟩
  · exact tyV_is I r ty
  · cases (show v = Value.ref a from r)
    rcases hq with ⟨o, hq, hd⟩ | ⟨o, its, n, hk, hc, hd, _⟩
    · obtain ⟨h1, _, _, _, o2, h2, h3, _⟩ := (show ObjOk X.prog X.w H s.heap a (.frz o (.tup xs)) from I.hok a _ hq)
      rw [h1] at h2; cases h2
      exact ⟨⟨o, h1, h3⟩, fun b e => by cases e; exact ⟨o, h1, hd⟩⟩
    · have h1 := I.kIn a o hk
      exact ⟨⟨o, h1, hc⟩, fun b e => by cases e; exact ⟨o, h1, hd⟩⟩
  · cases (show v = Value.ref a from r)
    obtain ⟨o, h1, h2⟩ := he _ (show ObjOk X.prog X.w H s.heap a (.ext φ) from I.hok a _ hq).1
    exact ⟨⟨o, h1, h2.1⟩, fun b e => by cases e; exact ⟨o, h1, h2.2.1⟩⟩
def tBMF (X : Cx) (name : Str) (to : TE) (t : TA) : TE := fun σ H Q => to σ H fun x H1 => ∃ T id r, Mth X T name id r ∧ KindV X.K T x H1 ∧ t σ H1 fun xs H2 => r x xs H2 Q
theorem pe_bmF {o e : Expr} {es : List Expr} {to : TE} {t : TA} {name : Str} {apos cpos : Pos} (ho : PE X o to) (ha : PA X (e :: es) t) (hb : plainBase o = true) (hn : NoStar (e :: es)) (hl : (e :: es).length < 30) (hline : (apos.endLine == cpos.line) = true) :
    PE X (.Call (.Attribute o name apos) (e :: es) [] cpos) (tBMF X name to t) := by
  refine ⟨fun pins s σ H Q I h => ?_⟩
  have hfew : ((backTo cpos (starEach (e :: es) X.env)).all (fun x => !x.1) && (backToKw cpos (keywordEach [] X.env)).all (fun x => x.1.isSome)
      && decide ((e :: es).length + ([] : List Keyword).length + (if ([] : List Keyword).isEmpty then 0 else 1) < 30)) = true := by
    rw [few_of hn]
    simp only [Bool.true_and, List.length_nil, Nat.add_zero, List.isEmpty_nil, if_true, Bool.and_eq_true, decide_eq_true_eq]
    exact ⟨rfl, hl⟩
  refine wpAny_Call_method_late (base_of hb) hfew hline rfl (thn (ho.run pins s σ H _ I h) fun v s1 ⟨x, H1, I1, r1, T, id, r, M, ty, q1⟩ => ?_)
  obtain ⟨h1, h2⟩ := ty.is I1 r1
  refine ⟨T, id, M.pa, M.slot, M.ty, h1, h2, ?_⟩
  have hA := ha.run cpos pins s1 σ H1 _ I1 q1
  have hs := starEach_cons (env := X.env) (es := es) (hn e List.mem_cons_self)
  rw [hs] at hA ⊢
  refine Calls.callWith_builtin (by show (false || (backTo cpos (starEach es X.env)).any (·.1)) = false; rw [NoStar.any fun e' m => hn e' (List.mem_cons_of_mem _ m)] <;> rfl) (Calls.evalArgs_plain ?_)
  exact thn hA fun us s2 ⟨vs, H2, I2, r2, q2⟩ => M.run pins s2 σ H2 x vs v us Q I2 r1 r2 q2
def tBMF0 (X : Cx) (name : Str) (to : TE) : TE := fun σ H Q => to σ H fun x H1 => ∃ T id r, Mth X T name id r ∧ KindV X.K T x H1 ∧ r x [] H1 Q
theorem pe_bmF0 {o : Expr} {to : TE} {name : Str} {apos cpos : Pos} (ho : PE X o to) (hb : plainBase o = true) (hline : (apos.endLine == cpos.line) = true) :
    PE X (.Call (.Attribute o name apos) [] [] cpos) (tBMF0 X name to) := by
  refine ⟨fun pins s σ H Q I h => ?_⟩
  refine wpAny_Call_method0_late (base_of hb) hline (thn (ho.run pins s σ H _ I h) fun v s1 ⟨x, H1, I1, r1, T, id, r, M, ty, q1⟩ => ?_)
  obtain ⟨h1, h2⟩ := ty.is I1 r1
  exact ⟨T, id, M.pa, M.slot, M.ty, h1, h2, Calls.callWith_builtin rfl (PySem.evalArgs_none (M.run pins s1 σ H1 x [] v [] Q I1 r1 .nil q1))⟩

def NFz : HO → Prop
  | .frz _ _ => False
  | _ => True
theorem Evo.set {φ : List Addr} {H : Hp} {a : Addr} {o o0 : HO} (m : a ∈ φ) (h : H a = some o0) (nf : NFz o0) : Evo φ H φ (L2.upd H a o) :=
  ⟨List.prefix_refl φ, (fun b u e n => by rw [upd_ne (by rintro rfl; exact n m)]; exact e), (fun b m' n => absurd m' n), fun b x u e => by
    rw [upd_ne (by rintro rfl; rw [h] at e; cases e; exact nf)]; exact e⟩
/-- a thing of the heap is written -/
theorem Kept.set {φ : List Addr} {η : He} {H : Hp} {a : Addr} {o : HO} (S : Sim G φ η H) (m : a ∈ φ) : Kept H (L2.upd H a o) := fun b u e n => by
  rw [upd_ne]
  · exact e
  · rintro rfl
    obtain ⟨v, hv, nv⟩ := S.trk b m
    rw [e] at hv
    cases hv
    exact n nv
theorem mem_at {φ : List Addr} {q : Nat} {a : Addr} (h : φ[q]? = some a) : a ∈ φ := List.mem_of_getElem? h
theorem Sim.set {φ : List Addr} {η : He} {H : Hp} {q : Nat} {a : Addr} {o : HO} {u u0 : Ob} (S : Sim G φ η H) (hq : φ[q]? = some a) (h0 : η.get q = some u0) (h : RO G φ (L2.upd H a o) a u) : Sim G φ (η.set q u) (L2.upd H a o) := by
  refine ⟨S.len, S.nd, fun i b e => ?_⟩
  by_cases hi : i = q
  · subst hi
    rw [hq] at e; cases e
    exact ⟨u, Hr.get_set _ _ _ _ h0, h⟩
  · obtain ⟨w, h1, h2⟩ := S.ob i b e
    refine ⟨w, ?_, h2.kept (Kept.set S (mem_at hq)) (upd_ne fun eb => hi ?_)⟩
    · show (η.t.set q u).get i = some w
      rw [Hr.get_set_ne _ _ _ _ hi]; exact h1
    · subst eb
      exact (List.getElem?_inj (List.getElem?_eq_some_iff.mp e).1 S.nd).mp (e.trans hq.symm)
/-- a list is set -/
theorem Sim.setL {φ : List Addr} {η : He} {H : Hp} {q : Nat} {a : Addr} {xs xs0 : List Vl} {vs : List V} (S : Sim G φ η H) (hq : φ[q]? = some a) (h0 : η.get q = some (.lst xs0)) (R : RVs G.K φ H xs vs) : Sim G φ (η.set q (.lst xs)) (L2.upd H a (.lst vs)) :=
  S.set hq h0 ⟨vs, upd_same, R.kept (Kept.set S (mem_at hq))⟩
theorem isLst_rel {φ : List Addr} {η : He} {H : Hp} {x : Vl} {v : V} (S : Sim G φ η H) (r : RV G.K φ H x v) (h : isLst η x = true) : ∃ q a vs, x = .loc q ∧ v = .ref a ∧ φ[q]? = some a ∧ H a = some (.lst vs) := by
  cases r with
  | @loc m a hn =>
    unfold isLst at h
    simp only at h
    cases hg : η.get m with
    | none => simp only [hg] at h; cases h
    | some o =>
      cases o with
      | lst xs => obtain ⟨vs, hH, _⟩ := locList S hn hg; exact ⟨m, a, vs, rfl, rfl, hn, hH⟩
      | dic _ _ => simp only [hg] at h; cases h
      | ins _ _ => simp only [hg] at h; cases h
  | _ => cases h
abbrev MR (X : Cx) (G : Gd) (id : String) (n : Nat) (p : List Vl → He → Rs Vl) : Prop := ∀ W : Value → Option Addr → Hp → Prop, MtR X id fun x vs H Q => ∃ φ η a ys, Sim G φ η H ∧ RV G.K φ H a x ∧ RVs G.K φ H ys vs ∧ ys.length = n ∧ Post G (RVl G) W φ H (p (a :: ys) η) Q
def of1 (p : P1) : List Vl → He → Rs Vl := fun xs h => match xs with
  | [x] => p x h
  | _ => .bad 0
def of2 (p : P2) : List Vl → He → Rs Vl := fun xs h => match xs with
  | [x, y] => p x y h
  | _ => .bad 0
def of3 (p : P3) : List Vl → He → Rs Vl := fun xs h => match xs with
  | [x, y, z] => p x y z h
  | _ => .bad 0
theorem kindL {K : PySem.W.Frag} {H : Hp} {a : Addr} {vs : List V} (h : H a = some (.lst vs)) : KindV K "list" (.ref a) H := .inl (.inl ⟨rfl, vs, SqL.of h⟩)
structure LM (X : Cx) (G : Gd) (name : Str) (id : String) (n : Nat) (p : List Vl → He → Rs Vl) : Prop where
  slot : Slot "list" name id
  ty : typeOf (.builtin id) = pure (.type "method_descriptor")
  run : MR X G id n p
theorem LM.m {name : Str} {id : String} {n : Nat} {p : List Vl → He → Rs Vl} (M : LM X G name id n p) (W : Value → Option Addr → Hp → Prop) : Mth X "list" name id fun x vs H Q => ∃ φ η a ys, Sim G φ η H ∧ RV G.K φ H a x ∧ RVs G.K φ H ys vs ∧ ys.length = n ∧ Post G (RVl G) W φ H (p (a :: ys) η) Q := ⟨PySem.F.plainAttrs_list, M.slot, M.ty, M.run W⟩
theorem s_L1 {o : Expr} {f : EvE} {name : Str} {id : String} {p : P1} {apos cpos : Pos} (M : LM X G name id 0 (of1 p)) (ho : SE X G o f) (hb : plainBase o = true) (hline : (apos.endLine == cpos.line) = true) : SE X G (.Call (.Attribute o name apos) [] [] cpos) (eL1 p f) := fun W tk => by
  refine ⟨fun pins s σ H Q I h => (pe_bmF0 (name := name) (ho W tk) hb hline).run pins s σ H Q I ?_⟩
  refine (rd_bind (R := RVl G) (k := fun v _ h => match isLst h v with | true => p v h | false => .bad 234) h).imp ?_
  rintro v H1 ⟨φ1, η1, r1, x, S1, E1, R1, p1⟩
  cases hl : isLst η1 x with
  | false => simp only [hl] at p1; exact p1.elim
  | true =>
    simp only [hl] at p1
    obtain ⟨q, a, vs, rfl, rfl, hn, hH⟩ := isLst_rel S1 R1 hl
    exact ⟨"list", id, _, M.m fun c d H' => W c d σ H', kindL hH, φ1, η1, .loc q, [], S1, R1, RVs.nil, rfl, p1⟩
theorem s_L2 {o e : Expr} {f g : EvE} {name : Str} {id : String} {p : P2} {apos cpos : Pos} (M : LM X G name id 1 (of2 p)) (ho : SE X G o f) (he : SE X G e g) (hn : ∀ v p, e ≠ .Starred v p) (hb : plainBase o = true) (hline : (apos.endLine == cpos.line) = true) : SE X G (.Call (.Attribute o name apos) [e] [] cpos) (eL2 p f g) := fun W tk => by
  refine ⟨fun pins s σ H Q I h => (pe_bmF (name := name) (ho W tk) (pa_cons (he W tk) pa_nil (starEach_cons hn)) hb (NoStar.one hn) (by simp) hline).run pins s σ H Q I ?_⟩
  refine (rd_bind (R := RVl G) (k := fun v r h => match isLst h v with | true => (g r h).bind fun w h => p v w h | false => .bad 234) h).imp ?_
  rintro v H1 ⟨φ1, η1, r1, x, S1, E1, R1, p1⟩
  cases hl : isLst η1 x with
  | false => simp only [hl] at p1; exact p1.elim
  | true =>
    simp only [hl] at p1
    obtain ⟨q, a, vs, rfl, rfl, hn, hH⟩ := isLst_rel S1 R1 hl
    refine ⟨"list", id, _, M.m fun c d H' => W c d σ H', kindL hH, ?_⟩
    refine (post_bind (R := RVl G) (fa := g) (k := fun w h => p (.loc q) w h) S1 E1 p1).imp ?_
    rintro w H2 ⟨φ2, η2, y, ev, S2, E2, R2, p2⟩
    exact ⟨φ2, η2, .loc q, [y], S2, R1.evo ev S1.trk, RVs.cons R2 RVs.nil, rfl, p2⟩
theorem s_L3 {o e e' : Expr} {f g g' : EvE} {name : Str} {id : String} {p : P3} {apos cpos : Pos} (M : LM X G name id 2 (of3 p)) (ho : SE X G o f) (he : SE X G e g) (he' : SE X G e' g') (hn : ∀ v p, e ≠ .Starred v p) (hn' : ∀ v p, e' ≠ .Starred v p) (hb : plainBase o = true) (hline : (apos.endLine == cpos.line) = true) : SE X G (.Call (.Attribute o name apos) [e, e'] [] cpos) (eL3 p f g g') := fun W tk => by
  refine ⟨fun pins s σ H Q I h => (pe_bmF (name := name) (ho W tk) (pa_cons (he W tk) (pa_cons (he' W tk) pa_nil (starEach_cons hn')) (starEach_cons hn)) hb (NoStar.two hn hn') (by simp) hline).run pins s σ H Q I ?_⟩
  refine (rd_bind (R := RVl G) (k := fun v r h => match isLst h v with | true => (g r h).bind fun w h => (g' r h).bind fun u h => p v w u h | false => .bad 234) h).imp ?_
  rintro v H1 ⟨φ1, η1, r1, x, S1, E1, R1, p1⟩
  cases hl : isLst η1 x with
  | false => simp only [hl] at p1; exact p1.elim
  | true =>
    simp only [hl] at p1
    obtain ⟨q, a, vs, rfl, rfl, hn, hH⟩ := isLst_rel S1 R1 hl
    refine ⟨"list", id, _, M.m fun c d H' => W c d σ H', kindL hH, ?_⟩
    refine (post_bind (R := RVl G) (fa := g) (k := fun w h => (g' r1 h).bind fun u h => p (.loc q) w u h) S1 E1 p1).imp ?_
    rintro w H2 ⟨φ2, η2, y, ev, S2, E2, R2, p2⟩
    refine (post_bind (R := RVl G) (fa := g') (k := fun u h => p (.loc q) y u h) S2 E2 p2).imp ?_
    rintro u H3 ⟨φ3, η3, z, ev3, S3, E3, R3, p3⟩
    exact ⟨φ3, η3, .loc q, [y, z], S3, (R1.evo ev S1.trk).evo ev3 S2.trk, RVs.cons (R2.evo ev3 S2.trk) (RVs.cons R3 RVs.nil), rfl, p3⟩

theorem m_append : LM X G "append" "list.append" 1 (of2 pAppend) := ⟨PySem.F.slot_list_append, PySem.F.type_list_append, fun W pins s σ H x vs u us Q I r1 rs ⟨φ, η, a, ys, S, ra, R, hl, p⟩ => by
  match ys, R, hl, p with
  | [y], R, _, p =>
    obtain ⟨w, _, rfl, rw', t⟩ := R.inv_cons
    cases t.inv_nil
    have p := (show Post G (RVl G) W φ H (pAppend a y η) Q from p)
    cases ra with
    | @loc m b hn =>
      unfold pAppend at p
      simp only at p
      cases hg : η.get m with
      | none => simp only [hg] at p; exact p.elim
      | some o =>
        cases o with
        | dic _ _ => simp only [hg] at p; exact p.elim
        | ins _ _ => simp only [hg] at p; exact p.elim
        | lst xs =>
          simp only [hg] at p
          cases hb : Nat.ble xs.length 10000 with
          | false => simp only [hb] at p; exact p.elim
          | true =>
            simp only [hb] at p
            obtain ⟨vs, hH, R1⟩ := locList S hn hg
            refine mt_append pins s σ H _ _ u us Q I r1 rs ⟨b, vs, w, rfl, rfl, hH, ?_, p φ _ .non (Evo.set (mem_at hn) hH trivial) (S.setL hn hg (R1.append (RVs.cons rw' RVs.nil))) .non⟩
            rw [← R1.1]
            have := Nat.le_of_ble_eq_true hb
            have e : (10000 : Nat) < sizeLine := by decide
            omega
    | _ => exact p.elim⟩
theorem dropE_eq : ∀ xs : List Vl, dropE xs = xs.dropLast
  | [] => rfl
  | [x] => rfl
  | x :: y :: xs => by show x :: dropE (y :: xs) = _; rw [dropE_eq (y :: xs)]; rfl
theorem m_pop : LM X G "pop" "list.pop" 0 (of1 pPop) := ⟨PySem.F.slot_list_pop, PySem.F.type_list_pop, fun W pins s σ H x vs u us Q I r1 rs ⟨φ, η, a, ys, S, ra, R, hl, p⟩ => by
  match ys, R, hl, p with
  | [], R, _, p =>
    cases R.inv_nil
    have p := (show Post G (RVl G) W φ H (pPop a η) Q from p)
    cases ra with
    | @loc m b hn =>
      unfold pPop at p
      simp only at p
      cases hg : η.get m with
      | none => simp only [hg] at p; exact p.elim
      | some o =>
        cases o with
        | dic _ _ => simp only [hg] at p; exact p.elim
        | ins _ _ => simp only [hg] at p; exact p.elim
        | lst xs =>
          simp only [hg] at p
          cases hi : nthI xs (-1) with
          | none => simp only [hi] at p; exact p.elim
          | some y =>
            simp only [hi] at p
            obtain ⟨vs, hH, R1⟩ := locList S hn hg
            have hy : xs[xs.length - 1]? = some y := by
              rw [nthI_eq] at hi
              unfold L2.atI ixN at hi
              rw [if_neg (by decide)] at hi
              by_cases h1 : -(xs.length : Int) ≤ -1
              · rw [if_pos h1] at hi
                have e : (-1 + (xs.length : Int)).toNat = xs.length - 1 := by omega
                have hi' : xs[(-1 + (xs.length : Int)).toNat]? = some y := hi
                rw [e] at hi'; exact hi'
              · rw [if_neg h1] at hi; cases hi
            obtain ⟨w, hw, rw'⟩ := R1.get hy
            have e2 : RVs G.K φ H (dropE xs) vs.dropLast := by
              rw [dropE_eq, List.dropLast_eq_take, List.dropLast_eq_take, ← R1.1]; exact R1.take _
            refine mt_pop pins s σ H _ _ u us Q I r1 rs ⟨b, vs, w, rfl, rfl, hH, by rw [← R1.1]; exact hw, p φ _ w (Evo.set (mem_at hn) hH trivial) (S.setL hn hg e2) (rw'.kept (Kept.set S (mem_at hn)))⟩
    | _ => exact p.elim⟩
theorem m_insert : LM X G "insert" "list.insert" 2 (of3 pInsert) := ⟨PySem.F.slot_list_insert, PySem.F.type_list_insert, fun W pins s σ H x vs u us Q I r1 rs ⟨φ, η, a, ys, S, ra, R, hl, p⟩ => by
  match ys, R, hl, p with
  | [y, z], R, _, p =>
    obtain ⟨w, _, rfl, ry, t⟩ := R.inv_cons
    obtain ⟨w', _, rfl, rz, t'⟩ := t.inv_cons
    cases t'.inv_nil
    have p := (show Post G (RVl G) W φ H (pInsert a y z η) Q from p)
    cases ra with
    | @loc m b hn =>
      unfold pInsert at p
      simp only at p
      cases hg : η.get m with
      | none => simp only [hg] at p; exact p.elim
      | some o =>
        cases o with
        | dic _ _ => simp only [hg] at p; exact p.elim
        | ins _ _ => simp only [hg] at p; exact p.elim
        | lst xs =>
          simp only [hg] at p
          cases ry with
          | int i =>
            cases i with
            | negSucc k => exact p.elim
            | ofNat k =>
              simp only at p
              cases hb : Nat.ble k 10000 with
              | false => simp only [hb] at p; exact p.elim
              | true =>
                simp only [hb] at p
                cases hb2 : Nat.ble xs.length 10000 with
                | false => simp only [hb2] at p; exact p.elim
                | true =>
                  simp only [hb2] at p
                  obtain ⟨vs, hH, R1⟩ := locList S hn hg
                  have l1 := Nat.le_of_ble_eq_true hb
                  have l2 := Nat.le_of_ble_eq_true hb2
                  have l3 : (10000 : Nat) < sizeLine := by decide
                  have e : vs.take k ++ [w'] ++ vs.drop k = vs.take k ++ w' :: vs.drop k := by simp
                  refine mt_insert pins s σ H _ _ u us Q I r1 rs ⟨b, vs, .ofNat k, w', rfl, rfl, hH, by rw [← R1.1]; omega, Int.natCast_nonneg k, by show (k : Int) < 2 ^ 63; omega, ?_⟩
                  show Q .non (upd H b (.lst (vs.take k ++ [w'] ++ vs.drop k)))
                  rw [e]
                  exact p φ _ .non (Evo.set (mem_at hn) hH trivial) (S.setL hn hg ((R1.take k).append (RVs.cons rz (R1.drop k)))) .non
          | _ => exact p.elim
    | _ => exact p.elim⟩
def RM (G : Gd) : List Addr → Hp → List Vl → V → Prop := fun φ H xs v => ∃ a vs, v = .ref a ∧ H a = some (.lst vs) ∧ RVs G.K φ H xs vs
def SM (X : Cx) (G : Gd) (e : Expr) (f : EvQ) : Prop := ∀ W, Takes X W → PE X e (rd G X.N.length (RM G) W f)
theorem m_of_l {e : Expr} {f : EvQ} (h : SL X G e f) : SM X G e f := fun W tk => by
  refine peWeak (h W tk) fun σ H Q q => ?_
  obtain ⟨φ, η, r, S, E, p⟩ := q
  refine ⟨φ, η, r, S, E, ?_⟩
  cases hf : f r η with
  | bad n => rw [hf] at p; exact p
  | ex c v η' => rw [hf] at p; exact p
  | ok xs η' =>
    rw [hf] at p
    rintro φ1 H1 v e1 S1 ⟨a, vs, rfl, h0, ha, hn, R1⟩
    exact p φ1 H1 _ e1 S1 ⟨a, vs, rfl, ha, R1⟩
theorem m_of {e : Expr} {f : EvE} (h : SE X G e f) : SM X G e (qOfM f) := fun W tk => by
  refine peWeak (h W tk) fun σ H Q q => ?_
  refine (rd_bind (R := RVl G) (k := fun v _ h => match mutOf h v with | some xs => .ok xs h | none => .bad 200) q).imp ?_
  rintro v H1 ⟨φ1, η1, r1, x, S1, E1, R1, p1⟩
  cases ht : mutOf η1 x with
  | none => simp only [ht] at p1; exact p1.elim
  | some xs =>
    simp only [ht] at p1
    refine p1 φ1 H1 v Evo.refl S1 ?_
    cases R1 with
    | @loc m a hn =>
      unfold mutOf at ht
      simp only at ht
      cases hg : η1.get m with
      | none => simp only [hg] at ht; cases ht
      | some o =>
        cases o with
        | lst ys => simp only [hg] at ht; cases ht; obtain ⟨vs, hH, R⟩ := locList S1 hn hg; exact ⟨a, vs, rfl, hH, R⟩
        | dic _ _ => simp only [hg] at ht; cases ht
        | ins _ _ => simp only [hg] at ht; cases ht
    | _ => cases ht
/-- list(x): a new one -/
theorem l_listOf (O : XOk X G) {a : Expr} {f : EvQ} {np pos : Pos} (B : Bn X "list" (.type "list")) (hn : ∀ v p, a ≠ .Starred v p) (ha : SQ X G a f) : SL X G (.Call (.Name "list" np) [a] [] pos) f := fun W tk => by
  refine ⟨fun pins s σ H Q I ⟨φ, η, r, S, E, p⟩ => (pe_callU B (.inr ⟨_, rfl⟩) call_list_of (pa_cons (ha W tk) pa_nil (starEach_cons hn)) (NoStar.one hn)).run pins s σ H Q I ⟨φ, η, r, S, E, ?_⟩⟩
  cases hf : f r η with
  | bad n => rw [hf] at p; exact p
  | ex c v η' => rw [hf] at p; exact p
  | ok xs η' =>
    rw [hf] at p
    rintro φ1 H1 v e1 S1 ⟨a, vs, rfl, hq, R1⟩
    refine ⟨a, vs, rfl, by rw [O.K]; exact hq.imp id SqD.t, fun l hl => ?_⟩
    exact p φ1 _ (.ref l) (e1.trans (Evo.upd hl)) (S1.upd hl) ⟨l, vs, rfl, e1.fresh S1.trk hl, upd_same, S1.notIn hl, R1.evo (Evo.upd hl) S1.trk⟩
theorem s_ext (O : XOk X G) {o e : Expr} {f : EvE} {g : EvQ} {apos cpos : Pos} (ho : SE X G o f) (he : SM X G e g) (hn : ∀ v p, e ≠ .Starred v p) (hb : plainBase o = true) (hline : (apos.endLine == cpos.line) = true) : SE X G (.Call (.Attribute o "extend" apos) [e] [] cpos) (eLQ pExtend f g) := fun W tk => by
  refine ⟨fun pins s σ H Q I h => (pe_bmF (name := "extend") (ho W tk) (pa_cons (he W tk) pa_nil (starEach_cons hn)) hb (NoStar.one hn) (by simp) hline).run pins s σ H Q I ?_⟩
  refine (rd_bind (R := RVl G) (k := fun v r h => match isLst h v with | true => (g r h).bind fun w h => pExtend v w h | false => .bad 234) h).imp ?_
  rintro v H1 ⟨φ1, η1, r1, x, S1, E1, R1, p1⟩
  cases hl : isLst η1 x with
  | false => simp only [hl] at p1; exact p1.elim
  | true =>
    simp only [hl] at p1
    obtain ⟨q, a, vs, rfl, rfl, hn, hH⟩ := isLst_rel S1 R1 hl
    refine ⟨"list", "list.extend", _, ⟨PySem.F.plainAttrs_list, PySem.F.slot_list_extend, PySem.F.type_list_extend, mt_extend⟩, kindL hH, ?_⟩
    refine (post_bind (R := RM G) (fa := g) (k := fun w h => pExtend (.loc q) w h) S1 E1 p1).imp ?_
    rintro w H2 ⟨φ2, η2, ys, ev, S2, E2, ⟨b, ws, rfl, hB, R2⟩, p2⟩
    unfold pExtend at p2
    simp only at p2
    have hn2 := ev.at hn
    cases hg : η2.get q with
    | none => simp only [hg] at p2; exact p2.elim
    | some o =>
      cases o with
      | dic _ _ => simp only [hg] at p2; exact p2.elim
      | ins _ _ => simp only [hg] at p2; exact p2.elim
      | lst xs =>
        simp only [hg] at p2
        cases hs : sh2 xs ys with
        | false => simp only [hs] at p2; exact p2.elim
        | true =>
          simp only [hs] at p2
          obtain ⟨vs', hH', R3⟩ := locList S2 hn2 hg
          exact ⟨a, b, vs', ws, rfl, rfl, hH', hB, by rw [← R3.1, ← R2.1]; exact sh2_le hs, p2 φ2 _ .non (Evo.set (mem_at hn2) hH' trivial) (S2.setL hn2 hg (R3.append R2)) .non⟩

theorem eqLs_some {h : He} {x : Vl} : ∀ {xs : List Vl} {cs : List Bool}, eqLs h x xs = some cs → xs.length = cs.length ∧ ∀ (j : Nat) (y : Vl) (c : Bool), xs[j]? = some y → cs[j]? = some c → eqd h y x = some c
  | [], cs, e => by cases e; exact ⟨rfl, fun j y c h => by simp at h⟩
  | y :: ys, cs, e => by
    have e' : (match eqd h y x with | some c => (match eqLs h x ys with | some cs => some (c :: cs) | none => none) | none => none) = some cs := e
    cases h1 : eqd h y x with
    | none => simp only [h1] at e'; cases e'
    | some c =>
      simp only [h1] at e'
      cases h2 : eqLs h x ys with
      | none => simp only [h2] at e'; cases e'
      | some ds =>
        simp only [h2] at e'
        cases e'
        obtain ⟨l, k⟩ := eqLs_some h2
        refine ⟨by simp [l], fun j z d hz hd => ?_⟩
        cases j with
        | zero => simp at hz hd; subst hz; subst hd; exact h1
        | succ j => exact k j z d (by simpa using hz) (by simpa using hd)
theorem firstT_some : ∀ {cs : List Bool} {k j : Nat}, firstT cs k = some j → true ∈ cs ∧ j = k + cs.idxOf true
  | [], _, _, e => nomatch e
  | true :: cs, k, j, e => by cases e; exact ⟨List.mem_cons_self, by simp⟩
  | false :: cs, k, j, e => by
    obtain ⟨m, h⟩ := firstT_some (show firstT cs (k + 1) = some j from e)
    refine ⟨List.mem_cons_of_mem _ m, ?_⟩
    rw [List.idxOf_cons]
    show j = k + (cs.idxOf true + 1)
    omega
theorem items_eq (O : XOk X G) {pins : List (Addr × Obj)} {s : Shared} {σ : L2.St} {H : Hp} {φ : List Addr} {η : He} (I : Inv X pins σ H s) (S : Sim G φ η H) {x : Vl} {v : V} {u : Value} {xs : List Vl} {vs : List V} {its : List Value} {cs : List Bool}
    (h : eqLs η x xs = some cs) (rx : RV G.K φ H x v) (r1 : RelV v u) (R : RVs G.K φ H xs vs) (rv : Vals vs its) : ItemsEq X.A.in1 s its cs u true := by
  obtain ⟨l, k⟩ := eqLs_some h
  have l1 := R.1
  have l2 := rv.length
  refine ⟨by omega, fun j h1 h2 => ?_⟩
  have hj : its[j]? = some its[j] := List.getElem?_eq_getElem h1
  obtain ⟨w, hw, rw'⟩ := getV rv hj
  obtain ⟨y, hy, ry⟩ := R.getR hw
  have hc : cs[j]? = some cs[j] := List.getElem?_eq_getElem h2
  have e := k j y _ hy hc
  have := (eqv_rel O I S 60 X.A.in1 (by have := O.units; show X.A.units + 1 + 60 < cLine; omega) y x w v _ u _ e ry rx rw' r1).2
  cases hb : cs[j] with
  | true => rw [hb] at this; simpa using this
  | false => rw [hb] at this; simpa using this
theorem isSeq_rel {φ : List Addr} {η : He} {H : Hp} {x : Vl} {v : V} (S : Sim G φ η H) (r : RV G.K φ H x v) (h : isSeq η x = true) : (∃ xs a vs, x = .tup xs ∧ v = .ref a ∧ SqD G.K H a vs ∧ RVs G.K φ H xs vs) ∨ ∃ q a vs, x = .loc q ∧ v = .ref a ∧ φ[q]? = some a ∧ H a = some (.lst vs) := by
  cases r with
  | tup hq hl hx => exact .inl ⟨_, _, _, rfl, rfl, hq, hl, hx⟩
  | @loc m a hn => exact .inr (isLst_rel S (.loc hn) h)
  | _ => cases h
theorem s_index (O : XOk X G) {o e : Expr} {f g : EvE} {apos cpos : Pos} (ho : SE X G o f) (he : SE X G e g) (hn : ∀ v p, e ≠ .Starred v p) (hb : plainBase o = true) (hline : (apos.endLine == cpos.line) = true) : SE X G (.Call (.Attribute o "index" apos) [e] [] cpos) (eS2 pIdxOf f g) := fun W tk => by
  refine ⟨fun pins s σ H Q I h => (pe_bmF (name := "index") (ho W tk) (pa_cons (he W tk) pa_nil (starEach_cons hn)) hb (NoStar.one hn) (by simp) hline).run pins s σ H Q I ?_⟩
  refine (rd_bind (R := RVl G) (k := fun v r h => match isSeq h v with | true => (g r h).bind fun w h => pIdxOf v w h | false => .bad 234) h).imp ?_
  rintro v H1 ⟨φ1, η1, r1, x, S1, E1, R1, p1⟩
  cases hl : isSeq η1 x with
  | false => simp only [hl] at p1; exact p1.elim
  | true =>
    simp only [hl] at p1
    rcases isSeq_rel S1 R1 hl with ⟨xs, a, vs, rfl, rfl, hq, Rs⟩ | ⟨q, a, vs, rfl, rfl, hn, hH⟩
    · have hm : ∀ W : Value → Option Addr → Hp → Prop, MtR X "tuple.index" fun x ws H Q => ∃ φ η xs y a vs w, x = .ref a ∧ ws = [w] ∧ Sim G φ η H ∧ SqD G.K H a vs ∧ RVs G.K φ H xs vs ∧ RV G.K φ H y w ∧ Post G (RVl G) W φ H (pIdxOf (.tup xs) y η) Q := by
        intro W pins s σ H x ws u us Q I ra rs ⟨φ, η, xs, y, a, vs, w, e1, e2, S, hq, R, ry, p⟩
        subst e1; subst e2
        obtain ⟨u2, rfl, r2⟩ := rs.one
        cases (show u = Value.ref a from ra)
        have p' : Post G (RVl G) W φ H (match eqLs η y xs with | some cs => (match firstT cs 0 with | some k => .ok (.int (.ofNat k)) η | none => .bad 134) | none => .bad 134) Q := p
        cases hc : eqLs η y xs with
        | none => simp only [hc] at p'; exact p'.elim
        | some cs =>
          simp only [hc] at p'
          cases hf : firstT cs 0 with
          | none => simp only [hf] at p'; exact p'.elim
          | some k =>
            simp only [hf] at p'
            obtain ⟨m, ek⟩ := firstT_some hf
            obtain ⟨its, rv, ht⟩ := tupAt O I hq.t
            refine call_tuple_index ht (items_eq O I S hc ry r2 R rv) m ⟨.int (.ofNat k), H, I.tok _, ⟨s.toks, ?_⟩, post_ok p' S (.int _)⟩
            rw [ek, Nat.zero_add]; rfl
      refine ⟨"tuple", "tuple.index", _, ⟨PySem.F.plainAttrs_tuple, PySem.F.slot_tuple_index, PySem.F.type_tuple_index, hm fun c d H' => W c d σ H'⟩, .inr (.inl ⟨rfl, a, vs, rfl, by rw [O.K]; exact hq⟩), ?_⟩
      refine (post_bind (R := RVl G) (fa := g) (k := fun w h => pIdxOf (.tup xs) w h) S1 E1 p1).imp ?_
      rintro w H2 ⟨φ2, η2, y, ev, S2, E2, R2, p2⟩
      exact ⟨φ2, η2, xs, y, a, vs, w, rfl, rfl, S2, hq.evo ev S1.trk, Rs.evo ev S1.trk, R2, p2⟩
    · have hm : ∀ W : Value → Option Addr → Hp → Prop, MtR X "list.index" fun x ws H Q => ∃ φ η q y a w, x = .ref a ∧ ws = [w] ∧ Sim G φ η H ∧ φ[q]? = some a ∧ RV G.K φ H y w ∧ Post G (RVl G) W φ H (pIdxOf (.loc q) y η) Q := by
        intro W pins s σ H x ws u us Q I ra rs ⟨φ, η, q, y, a, w, e1, e2, S, hn, ry, p⟩
        subst e1; subst e2
        obtain ⟨u2, rfl, r2⟩ := rs.one
        cases (show u = Value.ref a from ra)
        unfold pIdxOf seqOf at p
        simp only at p
        cases hg : η.get q with
        | none => simp only [hg] at p; exact p.elim
        | some o =>
          cases o with
          | dic _ _ => simp only [hg] at p; exact p.elim
          | ins _ _ => simp only [hg] at p; exact p.elim
          | lst xs =>
            simp only [hg] at p
            obtain ⟨vs, hH, R⟩ := locList S hn hg
            cases hc : eqLs η y xs with
            | none => simp only [hc] at p; exact p.elim
            | some cs =>
              simp only [hc] at p
              cases hf : firstT cs 0 with
              | none => simp only [hf] at p; exact p.elim
              | some k =>
                simp only [hf] at p
                obtain ⟨m, ek⟩ := firstT_some hf
                obtain ⟨its, rv, ht, hz⟩ := I.list (SqL.of hH)
                have l1 := (eqLs_some hc).1
                have l2 := R.1
                refine call_list_index ht.isList (items_eq O I S hc ry r2 R rv) (by rw [← l1, l2]; exact hz) m ⟨.int (.ofNat k), H, I.tok _, ⟨s.toks, ?_⟩, post_ok p S (.int _)⟩
                rw [ek, Nat.zero_add]; rfl
      refine ⟨"list", "list.index", _, ⟨PySem.F.plainAttrs_list, PySem.F.slot_list_index, PySem.F.type_list_index, hm fun c d H' => W c d σ H'⟩, kindL hH, ?_⟩
      refine (post_bind (R := RVl G) (fa := g) (k := fun w h => pIdxOf (.loc q) w h) S1 E1 p1).imp ?_
      rintro w H2 ⟨φ2, η2, y, ev, S2, E2, R2, p2⟩
      exact ⟨φ2, η2, q, y, a, w, rfl, rfl, S2, ev.at hn, R2, p2⟩
end
end FP
end
section
namespace FP

/-- by rows of ints -/
def lexI : List Int → List Int → Bool
  | [], [] => false
  | [], _ :: _ => true
  | _ :: _, [] => false
  | a :: as, b :: bs => if a = b then lexI as bs else decide (a < b)
theorem lexI_asym : ∀ {x y : List Int}, lexI x y = true → lexI y x = false
  | [], [], h => nomatch h
  | [], _ :: _, _ => rfl
  | _ :: _, [], h => nomatch h
  | a :: as, b :: bs, h => by
    unfold lexI at h ⊢
    by_cases e : a = b
    · subst e; rw [if_pos rfl] at h ⊢; exact lexI_asym h
    · rw [if_neg e] at h; rw [if_neg (Ne.symm e)]
      have := of_decide_eq_true h
      exact decide_eq_false (by omega)
theorem lexI_tr : ∀ {x y z : List Int}, lexI y x = false → lexI z y = false → lexI z x = false
  | [], [], [], _, _ => rfl
  | [], [], _ :: _, _, _ => rfl
  | [], _ :: _, [], _, h => nomatch h
  | [], _ :: _, _ :: _, _, _ => rfl
  | _ :: _, [], _, h, _ => nomatch h
  | a :: as, b :: bs, [], _, h => nomatch h
  | a :: as, b :: bs, c :: cs, h1, h2 => by
    unfold lexI at h1 h2 ⊢
    by_cases e : b = a
    · subst e
      rw [if_pos rfl] at h1
      by_cases e2 : c = b
      · subst e2
        rw [if_pos rfl] at h2 ⊢
        exact lexI_tr h1 h2
      · rw [if_neg e2] at h2 ⊢; exact h2
    · rw [if_neg e] at h1
      have h1 := of_decide_eq_false h1
      by_cases e2 : c = b
      · subst e2
        rw [if_neg e]; exact decide_eq_false h1
      · rw [if_neg e2] at h2
        have h2 := of_decide_eq_false h2
        rw [if_neg (by omega)]; exact decide_eq_false (by omega)
theorem lexI_self : ∀ x : List Int, lexI x x = false
  | [] => rfl
  | a :: as => by unfold lexI; rw [if_pos rfl]; exact lexI_self as
theorem lexI_cons {a : Int} {x y : List Int} : lexI (a :: x) (a :: y) = lexI x y := by
  show (if a = a then lexI x y else decide (a < a)) = _
  rw [if_pos rfl]
theorem lexI_ne {a b : Int} {x y : List Int} (h : a ≠ b) : lexI (a :: x) (b :: y) = decide (a < b) := if_neg h
def chI (c : Nat) : Int := (c : Int) + 1
mutual
/-- a key as a row of ints -/
def enc : Vl → List Int
  | .int i => [0, i]
  | .str s => 1 :: (s.map chI ++ [0])
  | .tup xs => 2 :: encs xs
  | _ => [3]
def encs : List Vl → List Int
  | [] => [0]
  | x :: xs => 1 :: (enc x ++ encs xs)
end
def ltE (x y : Vl) : Bool := lexI (enc x) (enc y)
theorem swo : SrtO.Swo ltE := ⟨fun _ _ h => lexI_asym h, fun _ _ _ h1 h2 => lexI_tr h1 h2⟩

theorem keq_refl : ∀ (n : Nat) (x : Vl) (b : Bool), keq n x x = some b → b = true
  | 0, _, _, e => nomatch e
  | n + 1, x, b, e => by
    cases x with
    | int i => cases e; show ibeq i i = true; rw [ibeq_eq]; simp
    | str t => cases e; exact seq_self t
    | tup xs => exact allEq_self (fun x b => keq_refl n x b) xs b e
    | _ => cases e
theorem keq_true : ∀ (n : Nat) (x y : Vl), keq n x y = some true → x = y
  | 0, _, _, e => nomatch e
  | n + 1, x, y, e => by
    cases x with
    | int i => cases y with
      | int j =>
        have e' : some (ibeq i j) = some true := e
        rw [ibeq_eq] at e'
        have := of_decide_eq_true (Option.some.inj e')
        rw [this]
      | _ => cases e
    | str s => cases y with
      | str t =>
        have e' : some (FP.seq s t) = some true := e
        rw [seq_eq] at e'
        have := of_decide_eq_true (Option.some.inj e')
        rw [this]
      | _ => cases e
    | tup xs => cases y with
      | tup ys =>
        have e' : allEq (keq n) xs ys = some true := e
        obtain ⟨_, h2⟩ := allEq_some e'
        obtain ⟨hl, h3⟩ := h2.mp rfl
        congr 1
        refine List.ext_getElem? fun i => ?_
        by_cases hi : i < xs.length
        · have a1 : xs[i]? = some xs[i] := List.getElem?_eq_getElem hi
          have a2 : ys[i]? = some (ys[i]'(by omega)) := List.getElem?_eq_getElem _
          rw [a1, a2, keq_true n _ _ (h3 i _ _ a1 a2)]
        · rw [List.getElem?_eq_none (by omega), List.getElem?_eq_none (by omega)]
      | _ => cases e
    | _ => cases e
theorem allEq_mono {f g : Vl → Vl → Option Bool} (h : ∀ x y b, f x y = some b → g x y = some b) : ∀ {xs ys : List Vl} {b : Bool}, allEq f xs ys = some b → allEq g xs ys = some b
  | [], [], _, e => e
  | [], _ :: _, _, e => e
  | _ :: _, [], _, e => e
  | x :: xs, y :: ys, b, e => by
    have e' : (match f x y with | some c => (match c with | true => allEq f xs ys | false => (match allEq f xs ys with | some _ => some false | none => none)) | none => none) = some b := e
    show (match g x y with | some c => (match c with | true => allEq g xs ys | false => (match allEq g xs ys with | some _ => some false | none => none)) | none => none) = some b
    cases hf : f x y with
    | none => rw [hf] at e'; cases e'
    | some c =>
      rw [hf] at e'
      rw [h _ _ _ hf]
      cases c with
      | true => exact allEq_mono h (show allEq f xs ys = some b from e')
      | false =>
        cases hr : allEq f xs ys with
        | none => simp only [hr] at e'; cases e'
        | some d =>
          simp only [hr] at e'
          simp only [allEq_mono h hr]
          exact e'
theorem keq_eqv {η : He} : ∀ (n : Nat) (x y : Vl) (b : Bool), keq n x y = some b → eqv η n x y = some b
  | 0, _, _, _, e => nomatch e
  | n + 1, x, y, b, e => by
    cases x with
    | int i => cases y with
      | int j => exact e
      | str _ => exact e
      | tup _ => exact e
      | _ => cases e
    | str s => cases y with
      | int j => exact e
      | str _ => exact e
      | tup _ => exact e
      | _ => cases e
    | tup xs => cases y with
      | int j => exact e
      | str _ => exact e
      | tup ys => exact allEq_mono (fun x y b => keq_eqv n x y b) (show allEq (keq n) xs ys = some b from e)
      | _ => cases e
    | _ => cases e
theorem allEq_total {f : Vl → Vl → Option Bool} : ∀ {xs ys : List Vl}, (∀ x ∈ xs, ∀ y ∈ ys, ∃ b, f x y = some b) → ∃ b, allEq f xs ys = some b
  | [], [], _ => ⟨_, rfl⟩
  | [], _ :: _, _ => ⟨_, rfl⟩
  | _ :: _, [], _ => ⟨_, rfl⟩
  | x :: xs, y :: ys, h => by
    obtain ⟨c, hc⟩ := h x List.mem_cons_self y List.mem_cons_self
    obtain ⟨d, hd⟩ := allEq_total (xs := xs) (ys := ys) fun x m y m' => h x (List.mem_cons_of_mem _ m) y (List.mem_cons_of_mem _ m')
    show ∃ b, (match f x y with | some c => (match c with | true => allEq f xs ys | false => (match allEq f xs ys with | some _ => some false | none => none)) | none => none) = some b
    rw [hc]
    cases c with
    | true => exact ⟨d, hd⟩
    | false => exact ⟨false, by simp only [hd]⟩
theorem keq_total : ∀ (n : Nat) (x y : Vl), keyOk n x = true → keyOk n y = true → ∃ b, keq n x y = some b
  | 0, _, _, h, _ => nomatch h
  | n + 1, x, y, hx, hy => by
    cases x with
    | int i => cases y <;> first | exact ⟨_, rfl⟩ | cases hy
    | str s => cases y <;> first | exact ⟨_, rfl⟩ | cases hy
    | tup xs => cases y with
      | int j => exact ⟨_, rfl⟩
      | str _ => exact ⟨_, rfl⟩
      | tup ys =>
        have hx' : xs.all (keyOk n) = true := hx
        have hy' : ys.all (keyOk n) = true := hy
        exact allEq_total fun x m y m' => keq_total n x y (List.all_eq_true.mp hx' x m) (List.all_eq_true.mp hy' y m')
      | _ => cases hy
    | _ => cases hx

theorem slt_enc : ∀ (s t : List Nat) (b : Bool) (u v : List Int), FP.seq s t = false → slt s t = b → lexI (s.map chI ++ [0] ++ u) (t.map chI ++ [0] ++ v) = b
  | [], [], _, _, _, h, _ => nomatch h
  | [], b :: bs, _, _, _, _, h => by
    cases h
    show lexI (0 :: _) (chI b :: _) = true
    rw [lexI_ne (by unfold chI; omega)]; exact decide_eq_true (by unfold chI; omega)
  | a :: as, [], _, _, _, _, h => by
    cases h
    show lexI (chI a :: _) (0 :: _) = false
    rw [lexI_ne (by unfold chI; omega)]; exact decide_eq_false (by unfold chI; omega)
  | a :: as, c :: cs, b, u, v, h, h2 => by
    have h' : (match Nat.beq a c with | true => FP.seq as cs | false => false) = false := h
    have h2' : (match Nat.beq a c with | true => slt as cs | false => Nat.blt a c) = b := h2
    show lexI (chI a :: _) (chI c :: _) = b
    cases hb : Nat.beq a c with
    | true =>
      rw [hb] at h' h2'
      have e := Nat.eq_of_beq_eq_true hb
      subst e
      rw [lexI_cons]
      exact slt_enc as cs b u v h' h2'
    | false =>
      rw [hb] at h2'
      have e : a ≠ c := fun z => by subst z; rw [Nat.beq_refl] at hb; cases hb
      rw [lexI_ne (by unfold chI; omega), ← h2']
      show decide _ = Nat.blt a c
      rw [Bool.eq_iff_iff, decide_eq_true_iff]
      show _ ↔ Nat.ble (a + 1) c = true
      rw [Nat.ble_eq]; unfold chI; omega
mutual
theorem ltv_enc : ∀ (n : Nat) (x y : Vl) (b : Bool) (u v : List Int), keq n x y = some false → ltv n x y = some b → lexI (enc x ++ u) (enc y ++ v) = b
  | 0, _, _, _, _, _, e, _ => nomatch e
  | n + 1, x, y, b, u, v, e, h => by
    cases x with
    | int i => cases y with
      | int j =>
        have e' : some (ibeq i j) = some false := e
        rw [ibeq_eq] at e'
        have e' := of_decide_eq_false (Option.some.inj e')
        have h' : some (iblt i j) = some b := h
        rw [iblt_eq] at h'
        show lexI (0 :: i :: u) (0 :: j :: v) = b
        rw [lexI_cons, lexI_ne e']
        exact Option.some.inj h'
      | _ => cases h
    | str s => cases y with
      | str t =>
        have e' : some (FP.seq s t) = some false := e
        have h' : some (slt s t) = some b := h
        show lexI (1 :: _) (1 :: _) = b
        rw [lexI_cons]
        exact slt_enc s t b u v (Option.some.inj e') (Option.some.inj h')
      | _ => cases h
    | tup xs => cases y with
      | tup ys =>
        show lexI (2 :: _) (2 :: _) = b
        rw [lexI_cons]
        exact lexLt_enc n xs ys b u v e h
      | _ => cases h
    | _ => cases h
theorem lexLt_enc : ∀ (n : Nat) (xs ys : List Vl) (b : Bool) (u v : List Int), allEq (keq n) xs ys = some false → lexLt (keq n) (ltv n) xs ys = some b → lexI (encs xs ++ u) (encs ys ++ v) = b
  | n, [], [], _, _, _, e, _ => nomatch e
  | n, [], y :: ys, b, u, v, e, h => by
    cases h
    show lexI (0 :: _) (1 :: _) = true
    rw [lexI_ne (by decide)]; rfl
  | n, x :: xs, [], b, u, v, e, h => by
    cases h
    show lexI (1 :: _) (0 :: _) = false
    rw [lexI_ne (by decide)]; rfl
  | n, x :: xs, y :: ys, b, u, v, e, h => by
    have e' : (match keq n x y with | some c => (match c with | true => allEq (keq n) xs ys | false => (match allEq (keq n) xs ys with | some _ => some false | none => none)) | none => none) = some false := e
    have h' : (match keq n x y with | some c => (match c with | true => lexLt (keq n) (ltv n) xs ys | false => ltv n x y) | none => none) = some b := h
    show lexI (1 :: (enc x ++ encs xs ++ u)) (1 :: (enc y ++ encs ys ++ v)) = b
    rw [lexI_cons, List.append_assoc, List.append_assoc]
    cases hk : keq n x y with
    | none => rw [hk] at h'; cases h'
    | some c =>
      rw [hk] at e' h'
      cases c with
      | true =>
        have := keq_true n x y hk
        subst this
        have go : ∀ l : List Int, lexI (l ++ (encs xs ++ u)) (l ++ (encs ys ++ v)) = b := fun l => by
          induction l with
          | nil => exact lexLt_enc n xs ys b u v e' h'
          | cons a l ih => show lexI (a :: _) (a :: _) = b; rw [lexI_cons]; exact ih
        exact go (enc x)
      | false => exact ltv_enc n x y b _ _ hk h'
end
theorem lexLt_self {n : Nat} (h : ∀ x b, keq n x x = some b → b = true) : ∀ (xs : List Vl) (b : Bool), lexLt (keq n) (ltv n) xs xs = some b → b = false
  | [], b, e => by cases e; rfl
  | x :: xs, b, e => by
    have e' : (match keq n x x with | some c => (match c with | true => lexLt (keq n) (ltv n) xs xs | false => ltv n x x) | none => none) = some b := e
    cases hk : keq n x x with
    | none => rw [hk] at e'; cases e'
    | some c =>
      rw [hk] at e'
      have := h x c hk
      subst this
      exact lexLt_self h xs b e'
theorem slt_self : ∀ s : List Nat, slt s s = false
  | [] => rfl
  | a :: as => by
    show (match Nat.beq a a with | true => slt as as | false => Nat.blt a a) = false
    rw [show Nat.beq a a = true from Nat.beq_refl a]; exact slt_self as
theorem ltv_self : ∀ (n : Nat) (x : Vl) (b : Bool), ltv n x x = some b → b = false
  | 0, _, _, e => nomatch e
  | n + 1, x, b, e => by
    cases x with
    | int i => cases e; show iblt i i = false; rw [iblt_eq]; simp
    | str t => cases e; exact slt_self t
    | tup xs => exact lexLt_self (fun x b => keq_refl n x b) xs b e
    | _ => cases e
theorem ltd_ltE {x y : Vl} {b : Bool} (hx : kok x = true) (hy : kok y = true) (h : ltd x y = some b) : ltE x y = b := by
  obtain ⟨c, hc⟩ := keq_total 60 x y hx hy
  cases c with
  | true =>
    have := keq_true 60 x y hc
    subst this
    rw [ltv_self 60 x b h]; exact lexI_self _
  | false =>
    have := ltv_enc 60 x y b [] [] hc h
    rw [List.append_nil, List.append_nil] at this
    exact this

open SrtO
theorem insF_of {x : Vl} : ∀ {ys zs : List Vl}, kok x = true → (∀ y ∈ ys, kok y = true) → insF x ys = some zs → Srtd ltE ys → Srtd ltE zs ∧ Stb ltE zs (x :: ys)
  | [], zs, hx, hy, h, hs => by cases h; exact ⟨srtd_one x, Stb.refl _⟩
  | y :: ys, zs, hx, hy, h, hs => by
    have h' : (match ltd y x with | some c => (match c with | true => (match insF x ys with | some zs => some (y :: zs) | none => none) | false => some (x :: y :: ys)) | none => none) = some zs := h
    cases hl : ltd y x with
    | none => rw [hl] at h'; cases h'
    | some c =>
      rw [hl] at h'
      have hlt := ltd_ltE (hy y List.mem_cons_self) hx hl
      cases c with
      | true =>
        cases hr : insF x ys with
        | none => simp only [hr] at h'; cases h'
        | some ws =>
          simp only [hr] at h'
          cases h'
          obtain ⟨h1, h2⟩ := insF_of hx (fun z m => hy z (List.mem_cons_of_mem _ m)) hr (List.pairwise_cons.mp hs).2
          refine ⟨List.pairwise_cons.mpr ⟨fun z hz => ?_, h1⟩, ?_⟩
          · rcases List.mem_cons.mp (h2.perm.mem_iff.mp hz) with rfl | hz
            · exact swo.asym _ _ hlt
            · exact srtd_head hs z hz
          · have a1 : Stb ltE ([y] ++ ws) ([y] ++ (x :: ys)) := (Stb.refl [y]).app h2
            have a2 : Stb ltE (([y] ++ [x]) ++ ys) (([x] ++ [y]) ++ ys) := (Stb.swap swo fun a ha b hb => by
              rw [List.mem_singleton.mp ha, List.mem_singleton.mp hb]; exact hlt).app (Stb.refl ys)
            exact a1.trans a2
      | false =>
        cases h'
        refine ⟨List.pairwise_cons.mpr ⟨fun z hz => ?_, hs⟩, Stb.refl _⟩
        rcases List.mem_cons.mp hz with rfl | hz
        · exact hlt
        · exact swo.tr x y z hlt (srtd_head hs z hz)
theorem sortL_of : ∀ {xs ys : List Vl}, (∀ x ∈ xs, kok x = true) → sortL xs = some ys → Srtd ltE ys ∧ Stb ltE ys xs
  | [], ys, _, h => by cases h; exact ⟨List.Pairwise.nil, Stb.refl _⟩
  | x :: xs, ys, hk, h => by
    have h' : (match sortL xs with | some ys => insF x ys | none => none) = some ys := h
    cases hs : sortL xs with
    | none => rw [hs] at h'; cases h'
    | some ws =>
      rw [hs] at h'
      obtain ⟨h1, h2⟩ := sortL_of (fun z m => hk z (List.mem_cons_of_mem _ m)) hs
      obtain ⟨h3, h4⟩ := insF_of (hk x List.mem_cons_self) (fun z m => hk z (List.mem_cons_of_mem _ (h2.perm.mem_iff.mp m))) h' h1
      exact ⟨h3, h4.trans ((Stb.refl [x]).app h2)⟩
/-- told for all: nothing that was sorted is left untold -/
theorem insF_told {x : Vl} : ∀ {ys zs : List Vl}, insF x ys = some zs → ∀ z ∈ zs, z = x ∨ z ∈ ys
  | [], zs, h, z, m => by cases h; exact .inl (List.mem_singleton.mp m)
  | y :: ys, zs, h, z, m => by
    have h' : (match ltd y x with | some c => (match c with | true => (match insF x ys with | some zs => some (y :: zs) | none => none) | false => some (x :: y :: ys)) | none => none) = some zs := h
    cases hl : ltd y x with
    | none => rw [hl] at h'; cases h'
    | some c =>
      rw [hl] at h'
      cases c with
      | true =>
        cases hr : insF x ys with
        | none => simp only [hr] at h'; cases h'
        | some ws =>
          simp only [hr] at h'
          cases h'
          rcases List.mem_cons.mp m with rfl | m
          · exact .inr List.mem_cons_self
          · rcases insF_told hr z m with e | e
            · exact .inl e
            · exact .inr (List.mem_cons_of_mem _ e)
      | false =>
        cases h'
        rcases List.mem_cons.mp m with rfl | m
        · exact .inl rfl
        · exact .inr m
end FP
end
section
set_option maxHeartbeats 1000000
namespace FPX
open PySem PySem.SeqAt
open PySem.AutoSeq1 (wpAny_loadPart')
open PySem.MeetsSeq PySem.MeetsSeq2 PySem.MeetsSeq3

theorem tupLtW (p q : Addr) (xs ys : Array Value) (n m : Nat) (d1 d2 : Option Addr) (s1 s2 : Array (Option Value)) (e r : Nat → Bool) :
    Meets (Builtin.«tuple.__lt__» ⟨[.ref p, .ref q], []⟩)
      (fun A R s =>
        (s.heap.get? p = some { cls := .type "tuple", dict := d1, data := .seq xs n, slots := s1 }) ∧
        (s.heap.get? q = some { cls := .type "tuple", dict := d2, data := .seq ys m, slots := s2 }) ∧
        (∀ j (h1 : j < xs.size) (h2 : j < ys.size), EqAt A.in1 s xs[j] ys[j] (e j)) ∧
        (∀ j (h1 : j < xs.size) (h2 : j < ys.size), (∀ i, i < j → e i = true) → e j = false → Ob.RcOp .Lt A.in1 s xs[j] ys[j] (r j)) ∧
        R (.ok (.ret (.bool (Ob.lexAt e r (decide (xs.size < ys.size)) 0 (min xs.size ys.size))))) s) :=
  .of_wp fun prog w A R s hyp => by
    obtain ⟨hp, g, d, tk, os⟩ := s; obtain ⟨hx, hy, he, hr, fin⟩ := hyp
    have sub := AutoSeq1.sub_tuple_tuple
    have hZ : (xs.toList.zip ys.toList).length = min xs.size ys.size := by simp
    wp_walk using wpAny_loadPart' hx, wpAny_loadPart' hy, wpAny_forIn_list _ (fun rest b s' => b.1 = none ∧ s' = ⟨hp, g, d, tk, os⟩ ∧ ∃ i, rest = (xs.toList.zip ys.toList).drop i ∧ (∀ k, k < i → k < min xs.size ys.size → e k = true) ∧
      R (.ok (.ret (.bool (Ob.lexAt e r (decide (xs.size < ys.size)) i (min xs.size ys.size - i))))) ⟨hp, g, d, tk, os⟩) _
    case turn =>
      rintro ⟨y, x⟩ rest b s' ⟨hb', rfl, i, hz, hall, hR⟩
      have hlt : i < (xs.toList.zip ys.toList).length := by
        by_cases h' : i < (xs.toList.zip ys.toList).length
        · exact h'
        · rw [List.drop_of_length_le (by omega)] at hz; cases hz
      have hm : i < min xs.size ys.size := hZ ▸ hlt
      have h1 : i < xs.size := by omega
      have h2 : i < ys.size := by omega
      rw [List.drop_eq_getElem_cons hlt] at hz
      injection hz with hyx htl
      have ey : y = xs[i] := by have := congrArg Prod.fst hyx; simpa using this
      have ex : x = ys[i] := by have := congrArg Prod.snd hyx; simpa using this
      subst ey ex
      rw [show min xs.size ys.size - i = (min xs.size ys.size - (i + 1)) + 1 by omega, Ob.lexAt_succ] at hR
      refine wpAny_bind (he i h1 h2 prog w _ _ ?_)
      cases hei : e i with
      | true =>
        rw [hei, if_pos rfl] at hR
        wp_walk
        refine ⟨rfl, rfl, i + 1, htl, fun k hk hk2 => ?_, hR⟩
        by_cases hki : k = i
        · subst hki; exact hei
        · exact hall k (by omega) hk2
      | false =>
        rw [hei, if_neg Bool.false_ne_true] at hR
        have rule := hr i h1 h2 (fun k hk => hall k hk (by omega)) hei prog w
        wp_walk using rule
        exact ⟨_, rfl, by simpa using hR⟩
    case fin =>
      rintro ⟨c1, c2⟩ s' ⟨hb', rfl, i, hz, hall, hR⟩
      simp only at hb'
      subst hb'
      have hge : min xs.size ys.size ≤ i := by
        by_cases h' : i < (xs.toList.zip ys.toList).length
        · rw [List.drop_eq_getElem_cons h'] at hz; cases hz
        · omega
      rw [Nat.sub_eq_zero_of_le hge, Ob.lexAt_zero] at hR
      wp_walk
      exact ⟨_, rfl, by simpa [Builtin.Tuple.tupleCompareSizes] using hR⟩
    case h =>
      exact ⟨rfl, rfl, 0, rfl, fun k hk => absurd hk (Nat.not_lt_zero k), by simpa using fin⟩
theorem RcOp.tupW {A : Around} {s : Shared} {p q : Addr} {xs ys : Array Value} {e r : Nat → Bool} (hx : s.heap.IsTuple p xs) (hy : s.heap.IsTuple q ys) (hu : A.units < cLine)
    (he : ∀ j (h1 : j < xs.size) (h2 : j < ys.size), EqAt A.in1 s xs[j] ys[j] (e j))
    (hr : ∀ j (h1 : j < xs.size) (h2 : j < ys.size), (∀ i, i < j → e i = true) → e j = false → Ob.RcOp .Lt A.in1 s xs[j] ys[j] (r j)) :
    Ob.RcOp .Lt A s (.ref p) (.ref q) (Ob.lexAt e r (decide (xs.size < ys.size)) 0 (min xs.size ys.size)) := fun prog w E Q h => by
  obtain ⟨⟨c1, d1, dt1, s1⟩, o1, k1, n, e1⟩ := id hx
  obtain ⟨⟨c2, d2, dt2, s2⟩, o2, k2, m, e2⟩ := id hy
  simp only at k1 e1 k2 e2
  subst k1 e1 k2 e2
  exact richCompare_meets_room (op := .Lt) ⟨_, o1, rfl⟩ ⟨_, o2, rfl⟩ F.slot_tuple_lt F.entry_tuple_lt (F.args_tuple_lt_2 _ _) (tupLtW p q xs ys n m d1 d2 s1 s2 e r)
    ⟨o1, o2, he, hr, (fun z => nomatch z), h⟩ hu
end FPX
namespace FP
open PySem PySem.Spec PyProof.Rows L2 PySem.SeqAt

theorem slt_eq : ∀ s t : List Nat, slt s t = decide (s < t)
  | [], [] => by simp [slt]
  | [], _ :: _ => by simp [slt]
  | _ :: _, [] => by simp [slt]
  | a :: as, b :: bs => by
    show (match Nat.beq a b with | true => slt as bs | false => Nat.blt a b) = _
    cases hb : Nat.beq a b with
    | true =>
      have e := Nat.eq_of_beq_eq_true hb
      subst e
      show slt as bs = _
      rw [slt_eq as bs]
      simp
    | false =>
      have e : a ≠ b := fun z => by subst z; rw [Nat.beq_refl] at hb; cases hb
      show Nat.ble (a + 1) b = _
      rw [Bool.eq_iff_iff, Nat.ble_eq, decide_eq_true_iff, List.cons_lt_cons_iff]
      constructor
      · intro h; exact .inl h
      · rintro (h | ⟨h, _⟩)
        · exact h
        · exact absurd h e
theorem lexLt_told {f g : Vl → Vl → Option Bool} : ∀ {xs ys : List Vl} {b : Bool}, lexLt f g xs ys = some b → ∀ (j : Nat) (x y : Vl), xs[j]? = some x → ys[j]? = some y →
    (∀ (i : Nat) (x' y' : Vl), i < j → xs[i]? = some x' → ys[i]? = some y' → f x' y' = some true) → f x y = some false → ∃ c, g x y = some c
  | [], _, _, _, _, _, _, h, _, _, _ => by simp at h
  | _ :: _, [], _, _, _, _, _, _, h, _, _ => by simp at h
  | a :: as, b :: bs, c, h, j, x, y, hx, hy, ha, hf => by
    have h' : (match f a b with | some c => (match c with | true => lexLt f g as bs | false => g a b) | none => none) = some c := h
    cases j with
    | zero =>
      simp at hx hy
      subst hx; subst hy
      rw [hf] at h'
      exact ⟨c, h'⟩
    | succ j =>
      have := ha 0 a b (Nat.succ_pos _) rfl rfl
      rw [this] at h'
      exact lexLt_told (show lexLt f g as bs = some c from h') j x y (by simpa using hx) (by simpa using hy) (fun i x' y' hi h1 h2 => ha (i + 1) x' y' (by omega) (by simpa using h1) (by simpa using h2)) hf
theorem lexLt_at {f g : Vl → Vl → Option Bool} : ∀ {xs ys : List Vl} {b : Bool}, lexLt f g xs ys = some b → ∀ (e r : Nat → Bool) (k : Nat), (∀ (j : Nat) (x y : Vl), xs[j]? = some x → ys[j]? = some y → f x y = some (e (k + j))) →
    (∀ (j : Nat) (x y : Vl), xs[j]? = some x → ys[j]? = some y → (∀ i, i < j → e (k + i) = true) → e (k + j) = false → g x y = some (r (k + j))) →
    Ob.lexAt e r (decide (xs.length < ys.length)) k (min xs.length ys.length) = b
  | [], [], b, h, e, r, k, _, _ => by cases h; rfl
  | [], y :: ys, b, h, e, r, k, _, _ => by
    cases h
    show Ob.lexAt e r (decide (0 < ys.length + 1)) k (min 0 (ys.length + 1)) = true
    rw [Nat.zero_min]
    show decide (0 < ys.length + 1) = true
    exact decide_eq_true (Nat.succ_pos _)
  | x :: xs, [], b, h, e, r, k, _, _ => by
    cases h
    show Ob.lexAt e r (decide (xs.length + 1 < 0)) k (min (xs.length + 1) 0) = false
    rw [Nat.min_zero]
    show decide (xs.length + 1 < 0) = false
    exact decide_eq_false (Nat.not_lt_zero _)
  | x :: xs, y :: ys, b, h, e, r, k, he, hr => by
    have h' : (match f x y with | some c => (match c with | true => lexLt f g xs ys | false => g x y) | none => none) = some b := h
    have e0 := he 0 x y rfl rfl
    show Ob.lexAt e r (decide (xs.length + 1 < ys.length + 1)) k (min (xs.length + 1) (ys.length + 1)) = b
    rw [Nat.add_min_add_right, Ob.lexAt_succ]
    rw [e0] at h'
    cases hk : e (k + 0) with
    | true =>
      rw [hk] at h'
      rw [if_pos rfl]
      have := lexLt_at (show lexLt f g xs ys = some b from h') e r (k + 1) (fun j x y hx hy => by rw [Nat.add_assoc, Nat.add_comm 1 j]; exact he (j + 1) x y (by simpa using hx) (by simpa using hy))
        (fun j x y hx hy ha hb => by
          rw [Nat.add_assoc, Nat.add_comm 1 j] at hb ⊢
          refine hr (j + 1) x y (by simpa using hx) (by simpa using hy) (fun i hi => ?_) hb
          cases i with
          | zero => exact hk
          | succ i => have := ha i (by omega); rw [Nat.add_assoc, Nat.add_comm 1 i] at this; exact this)
      rw [← this]
      congr 1
      simp
    | false =>
      rw [hk] at h'
      rw [if_neg Bool.false_ne_true]
      have := hr 0 x y rfl rfl (fun i hi => absurd hi (Nat.not_lt_zero i)) hk
      rw [show g x y = some b from h'] at this
      exact (Option.some.inj this).symm
section
variable {X : Cx} {G : Gd} {pins : List (Addr × Obj)} {σ : L2.St} {H : Hp} {s : Shared} {φ : List Addr} {η : He}
theorem rcLt (O : XOk X G) (I : Inv X pins σ H s) (S : Sim G φ η H) : ∀ (n : Nat) (A : Around), A.units + n < cLine → ∀ (x y : Vl) (v w : V) (u1 u2 : Value) (b : Bool), keyOk n x = true → keyOk n y = true → ltv n x y = some b → RV G.K φ H x v → RV G.K φ H y w → RelV v u1 → RelV w u2 → Ob.RcOp .Lt A s u1 u2 b
  | 0, _, _, _, _, _, _, _, _, _, h, _, _, _, _, _, _ => nomatch h
  | n + 1, A, hu, x, y, v, w, u1, u2, b, kx, ky, h, rx, ry, r1, r2 => by
    cases rx with
    | int i => cases ry with
      | int j =>
        obtain ⟨t, rfl⟩ := (show ∃ t, u1 = Value.int i t from r1)
        obtain ⟨t', rfl⟩ := (show ∃ t, u2 = Value.int j t from r2)
        have h' : some (iblt i j) = some b := h
        rw [iblt_eq] at h'
        rw [← Option.some.inj h']
        exact Ob.RcOp.lt_int i j t t'
      | _ => cases h
    | str z => cases ry with
      | str z' =>
        obtain ⟨t, rfl⟩ := (show ∃ t, u1 = Value.str (strOf z) t from r1)
        obtain ⟨t', rfl⟩ := (show ∃ t, u2 = Value.str (strOf z') t from r2)
        have h' : some (slt z z') = some b := h
        rw [slt_eq] at h'
        rw [← Option.some.inj h']
        exact fun _ _ _ _ q => lt_str q
      | _ => cases h
    | @tup xs a vs hq hl hx => cases ry with
      | @tup ys c ws hq' hl' hx' =>
        cases (show u1 = Value.ref a from r1)
        cases (show u2 = Value.ref c from r2)
        have kx' : xs.all (keyOk n) = true := kx
        have ky' : ys.all (keyOk n) = true := ky
        have h' : lexLt (keq n) (ltv n) xs ys = some b := h
        obtain ⟨i1, rv1, ht1⟩ := tupAt O I hq.t
        obtain ⟨i2, rv2, ht2⟩ := tupAt O I hq'.t
        have l1 := rv1.length
        have l2 := rv2.length
        let e : Nat → Bool := fun j => match xs[j]?, ys[j]? with | some x, some y => (keq n x y == some true) | _, _ => false
        let r : Nat → Bool := fun j => match xs[j]?, ys[j]? with | some x, some y => (ltv n x y == some true) | _, _ => false
        have he : ∀ j x y, xs[j]? = some x → ys[j]? = some y → keq n x y = some (e j) := fun j x y hx hy => by
          obtain ⟨c, hc⟩ := keq_total n x y (List.all_eq_true.mp kx' x (List.mem_of_getElem? hx)) (List.all_eq_true.mp ky' y (List.mem_of_getElem? hy))
          have : e j = (keq n x y == some true) := by show (match xs[j]?, ys[j]? with | some x, some y => (keq n x y == some true) | _, _ => false) = _; rw [hx, hy]
          rw [this, hc]; cases c <;> rfl
        have hr : ∀ j x y, xs[j]? = some x → ys[j]? = some y → (∀ i, i < j → e i = true) → e j = false → ltv n x y = some (r j) := fun j x y hx hy ha hb => by
          obtain ⟨c, hc⟩ := lexLt_told h' j x y hx hy (fun i x' y' hi h1 h2 => by rw [he i x' y' h1 h2, ha i hi]) (by rw [he j x y hx hy, hb])
          have : r j = (ltv n x y == some true) := by show (match xs[j]?, ys[j]? with | some x, some y => (ltv n x y == some true) | _, _ => false) = _; rw [hx, hy]
          rw [this, hc]; cases c <;> rfl
        have key := lexLt_at h' e r 0 (fun j x y hx hy => by rw [Nat.zero_add]; exact he j x y hx hy) (fun j x y hx hy ha hb => by rw [Nat.zero_add] at hb ⊢; exact hr j x y hx hy (fun i hi => by have := ha i hi; rw [Nat.zero_add] at this; exact this) hb)
        have fin := FPX.RcOp.tupW (A := A) (s := s) (e := e) (r := r) ht1 ht2 (by omega) (fun j h1 h2 => ?_) (fun j h1 h2 ha hb => ?_)
        · have z1 : i1.toArray.size = xs.length := by rw [List.size_toArray]; omega
          have z2 : i2.toArray.size = ys.length := by rw [List.size_toArray]; omega
          rw [z1, z2, key] at fin
          exact fin
        · obtain ⟨v, hv, rv⟩ := valAt rv1 h1
          obtain ⟨w, hw, rw'⟩ := valAt rv2 h2
          obtain ⟨x, hx1, rx⟩ := (show RVs G.K φ H xs vs from ⟨hl, hx⟩).getR hv
          obtain ⟨y, hy1, ry⟩ := (show RVs G.K φ H ys ws from ⟨hl', hx'⟩).getR hw
          exact (eqv_rel O I S n A.in1 (by show A.units + 1 + n < cLine; omega) x y v w _ _ _ (keq_eqv n x y _ (he j x y hx1 hy1)) rx ry rv rw').2
        · obtain ⟨v, hv, rv⟩ := valAt rv1 h1
          obtain ⟨w, hw, rw'⟩ := valAt rv2 h2
          obtain ⟨x, hx1, rx⟩ := (show RVs G.K φ H xs vs from ⟨hl, hx⟩).getR hv
          obtain ⟨y, hy1, ry⟩ := (show RVs G.K φ H ys ws from ⟨hl', hx'⟩).getR hw
          exact rcLt O I S n A.in1 (by show A.units + 1 + n < cLine; omega) x y v w _ _ _ (List.all_eq_true.mp kx' x (List.mem_of_getElem? hx1)) (List.all_eq_true.mp ky' y (List.mem_of_getElem? hy1)) (hr j x y hx1 hy1 ha hb) rx ry rv rw'
      | _ => cases h
    | _ => cases h
/-- < -/
theorem p_lt (O : XOk X G) : OP2 X G (compareOp .Lt) pLt := fun W pins s σ H v w u1 u2 Q I r1 r2 ⟨φ, η, x, y, S, rx, ry, p⟩ => by
  have key : ∀ b, ltk x y = some b → Q (.bl b) H → wpAny (model X.prog X.w) X.A (compareOp .Lt u1 u2) (EP X pins σ Q) X.xe s := fun b hb q => by
    cases rx with
    | int i => cases ry with
      | int j =>
        have hb' : some (iblt i j) = some b := hb
        rw [iblt_eq] at hb'
        exact op_lt pins s σ H _ _ _ _ Q I r1 r2 ⟨i, j, rfl, rfl, by show Q (.bl (decide (i < j))) H; rw [Option.some.inj hb']; exact q⟩
      | _ => cases hb
    | str z => cases ry with
      | str z' => exact rcLt O I S 60 X.A (by have := O.units; omega) (.str z) (.str z') _ _ _ _ b rfl rfl hb (.str z) (.str z') r1 r2 _ _ _ _ ⟨.bl b, H, I, rfl, q⟩
      | _ => cases hb
    | @tup xs a vs hq hl hx =>
      have hb' : (match kok (.tup xs) with | true => (match kok y with | true => ltd (.tup xs) y | false => none) | false => none) = some b := hb
      cases k1 : kok (.tup xs) with
      | false => rw [k1] at hb'; cases hb'
      | true =>
        rw [k1] at hb'
        cases k2 : kok y with
        | false => rw [k2] at hb'; cases hb'
        | true =>
          rw [k2] at hb'
          exact rcLt O I S 60 X.A (by have := O.units; omega) _ _ _ _ _ _ b k1 k2 hb' (.tup hq hl hx) ry r1 r2 _ _ _ _ ⟨.bl b, H, I, rfl, q⟩
    | _ => cases hb
  unfold pLt bv at p
  cases he : ltk x y with
  | none => simp only [he] at p; exact p.elim
  | some b =>
    simp only [he] at p
    exact key b he (post_ok p S (.bl _))
end
end FP
end
section
namespace FP
open SrtO

def Tld (n : Nat) (x y : Vl) : Prop := ∃ b, ltv n x y = some b
theorem keq_symm (n : Nat) {x y : Vl} {b : Bool} (hx : keyOk n x = true) (hy : keyOk n y = true) (h : keq n x y = some b) : keq n y x = some b := by
  obtain ⟨c, hc⟩ := keq_total n y x hy hx
  cases b with
  | true =>
    have e := keq_true n x y h
    subst e; exact h
  | false =>
    cases c with
    | false => exact hc
    | true =>
      have e := keq_true n y x hc
      subst e; rw [h] at hc; cases hc
mutual
theorem Tld.symm : ∀ (n : Nat) (x y : Vl), keyOk n x = true → keyOk n y = true → Tld n x y → Tld n y x
  | 0, _, _, _, _, ⟨_, h⟩ => nomatch h
  | n + 1, x, y, hx, hy, ⟨b, h⟩ => by
    cases x with
    | int i => cases y with
      | int j => exact ⟨_, rfl⟩
      | _ => cases h
    | str s => cases y with
      | str t => exact ⟨_, rfl⟩
      | _ => cases h
    | tup xs => cases y with
      | tup ys => exact lexLt_symm n xs ys (fun z m => List.all_eq_true.mp (show xs.all (keyOk n) = true from hx) z m) (fun z m => List.all_eq_true.mp (show ys.all (keyOk n) = true from hy) z m) b h
      | _ => cases h
    | _ => cases h
theorem lexLt_symm : ∀ (n : Nat) (xs ys : List Vl), (∀ z ∈ xs, keyOk n z = true) → (∀ z ∈ ys, keyOk n z = true) → ∀ b, lexLt (keq n) (ltv n) xs ys = some b → ∃ c, lexLt (keq n) (ltv n) ys xs = some c
  | n, [], [], _, _, _, _ => ⟨_, rfl⟩
  | n, [], _ :: _, _, _, _, _ => ⟨_, rfl⟩
  | n, _ :: _, [], _, _, _, _ => ⟨_, rfl⟩
  | n, x :: xs, y :: ys, hx, hy, b, h => by
    have h' : (match keq n x y with | some c => (match c with | true => lexLt (keq n) (ltv n) xs ys | false => ltv n x y) | none => none) = some b := h
    show ∃ c, (match keq n y x with | some c => (match c with | true => lexLt (keq n) (ltv n) ys xs | false => ltv n y x) | none => none) = some c
    have kx := hx x List.mem_cons_self
    have ky := hy y List.mem_cons_self
    cases he : keq n x y with
    | none => rw [he] at h'; cases h'
    | some e =>
      rw [keq_symm n kx ky he]
      rw [he] at h'
      cases e with
      | true => exact lexLt_symm n xs ys (fun z m => hx z (List.mem_cons_of_mem _ m)) (fun z m => hy z (List.mem_cons_of_mem _ m)) b h'
      | false => exact Tld.symm n x y kx ky ⟨b, h'⟩
end
theorem lexI_app : ∀ (l x y : List Int), lexI (l ++ x) (l ++ y) = lexI x y
  | [], _, _ => rfl
  | a :: l, x, y => by show lexI (a :: (l ++ x)) (a :: (l ++ y)) = _; rw [lexI_cons]; exact lexI_app l x y
theorem slt_tri : ∀ s t : List Nat, FP.seq s t = false → slt s t = true ∨ slt t s = true
  | [], [], h => nomatch h
  | [], _ :: _, _ => .inl rfl
  | _ :: _, [], _ => .inr rfl
  | a :: as, b :: bs, h => by
    have h' : (match Nat.beq a b with | true => FP.seq as bs | false => false) = false := h
    show (match Nat.beq a b with | true => slt as bs | false => Nat.blt a b) = true ∨ (match Nat.beq b a with | true => slt bs as | false => Nat.blt b a) = true
    cases hb : Nat.beq a b with
    | true =>
      rw [hb] at h'
      have e := Nat.eq_of_beq_eq_true hb
      subst e
      rw [hb]
      exact slt_tri as bs h'
    | false =>
      have e : a ≠ b := fun z => by subst z; rw [Nat.beq_refl] at hb; cases hb
      have hb2 : Nat.beq b a = false := by
        cases h : Nat.beq b a with
        | false => rfl
        | true => exact absurd (Nat.eq_of_beq_eq_true h).symm e
      rw [hb2]
      by_cases h : a < b
      · exact .inl (Nat.ble_eq.mpr h)
      · exact .inr (Nat.ble_eq.mpr (show b + 1 ≤ a by omega))
theorem seq_comm (s t : List Nat) : FP.seq s t = FP.seq t s := by
  rw [seq_eq, seq_eq, Bool.eq_iff_iff, decide_eq_true_iff, decide_eq_true_iff]
  exact ⟨Eq.symm, Eq.symm⟩
mutual
theorem enc_tri : ∀ (n : Nat) (x y : Vl) (u v : List Int), keyOk n x = true → keyOk n y = true → keq n x y = some false → lexI (enc x ++ u) (enc y ++ v) = true ∨ lexI (enc y ++ v) (enc x ++ u) = true
  | 0, _, _, _, _, _, _, h => nomatch h
  | n + 1, x, y, u, v, hx, hy, h => by
    cases x with
    | int i => cases y with
      | int j =>
        have e' : some (ibeq i j) = some false := h
        rw [ibeq_eq] at e'
        have e' := of_decide_eq_false (Option.some.inj e')
        show lexI (0 :: i :: u) (0 :: j :: v) = true ∨ lexI (0 :: j :: v) (0 :: i :: u) = true
        rw [lexI_cons, lexI_cons, lexI_ne e', lexI_ne (Ne.symm e')]
        by_cases q : i < j
        · exact .inl (decide_eq_true q)
        · exact .inr (decide_eq_true (by omega))
      | str _ => exact .inl (by show lexI (0 :: _) (1 :: _) = true; rw [lexI_ne (by decide)]; rfl)
      | tup _ => exact .inl (by show lexI (0 :: _) (2 :: _) = true; rw [lexI_ne (by decide)]; rfl)
      | _ => cases hy
    | str s => cases y with
      | int j => exact .inr (by show lexI (0 :: _) (1 :: _) = true; rw [lexI_ne (by decide)]; rfl)
      | str t =>
        have e' : FP.seq s t = false := Option.some.inj h
        show lexI (1 :: _) (1 :: _) = true ∨ lexI (1 :: _) (1 :: _) = true
        rw [lexI_cons, lexI_cons]
        rcases slt_tri s t e' with q | q
        · exact .inl (slt_enc s t true u v e' q)
        · exact .inr (slt_enc t s true v u (by rw [seq_comm]; exact e') q)
      | tup _ => exact .inl (by show lexI (1 :: _) (2 :: _) = true; rw [lexI_ne (by decide)]; rfl)
      | _ => cases hy
    | tup xs => cases y with
      | int j => exact .inr (by show lexI (0 :: _) (2 :: _) = true; rw [lexI_ne (by decide)]; rfl)
      | str _ => exact .inr (by show lexI (1 :: _) (2 :: _) = true; rw [lexI_ne (by decide)]; rfl)
      | tup ys =>
        show lexI (2 :: _) (2 :: _) = true ∨ lexI (2 :: _) (2 :: _) = true
        rw [lexI_cons, lexI_cons]
        exact encs_tri n xs ys u v (fun z m => List.all_eq_true.mp (show xs.all (keyOk n) = true from hx) z m) (fun z m => List.all_eq_true.mp (show ys.all (keyOk n) = true from hy) z m) h
      | _ => cases hy
    | _ => cases hx
theorem encs_tri : ∀ (n : Nat) (xs ys : List Vl) (u v : List Int), (∀ z ∈ xs, keyOk n z = true) → (∀ z ∈ ys, keyOk n z = true) → allEq (keq n) xs ys = some false → lexI (encs xs ++ u) (encs ys ++ v) = true ∨ lexI (encs ys ++ v) (encs xs ++ u) = true
  | n, [], [], _, _, _, _, h => nomatch h
  | n, [], y :: ys, u, v, _, _, _ => .inl (by show lexI (0 :: _) (1 :: _) = true; rw [lexI_ne (by decide)]; rfl)
  | n, x :: xs, [], u, v, _, _, _ => .inr (by show lexI (0 :: _) (1 :: _) = true; rw [lexI_ne (by decide)]; rfl)
  | n, x :: xs, y :: ys, u, v, kx, ky, h => by
    have h' : (match keq n x y with | some c => (match c with | true => allEq (keq n) xs ys | false => (match allEq (keq n) xs ys with | some _ => some false | none => none)) | none => none) = some false := h
    show lexI (1 :: (enc x ++ encs xs ++ u)) (1 :: (enc y ++ encs ys ++ v)) = true ∨ lexI (1 :: (enc y ++ encs ys ++ v)) (1 :: (enc x ++ encs xs ++ u)) = true
    rw [lexI_cons, lexI_cons, List.append_assoc, List.append_assoc]
    cases he : keq n x y with
    | none => rw [he] at h'; cases h'
    | some e =>
      rw [he] at h'
      cases e with
      | true =>
        have e1 := keq_true n x y he
        subst e1
        rw [lexI_app, lexI_app]
        exact encs_tri n xs ys u v (fun w m => kx w (List.mem_cons_of_mem _ m)) (fun w m => ky w (List.mem_cons_of_mem _ m)) h'
      | false => exact enc_tri n x y _ _ (kx x List.mem_cons_self) (ky y List.mem_cons_self) he
end
mutual
theorem Tld.trans : ∀ (n : Nat) (x y z : Vl), keyOk n x = true → keyOk n y = true → keyOk n z = true → lexI (enc y) (enc x) = false → lexI (enc z) (enc y) = false → Tld n x y → Tld n y z → Tld n x z
  | 0, _, _, _, _, _, _, _, _, ⟨_, h⟩, _ => nomatch h
  | n + 1, x, y, z, hx, hy, hz, h1, h2, ⟨b, h⟩, ⟨c, h'⟩ => by
    cases x with
    | int i => cases y with
      | int j => cases z with
        | int k => exact ⟨_, rfl⟩
        | _ => cases h'
      | _ => cases h
    | str s => cases y with
      | str t => cases z with
        | str k => exact ⟨_, rfl⟩
        | _ => cases h'
      | _ => cases h
    | tup xs => cases y with
      | tup ys => cases z with
        | tup zs =>
          have a1 : lexI (2 :: encs ys) (2 :: encs xs) = false := h1
          have a2 : lexI (2 :: encs zs) (2 :: encs ys) = false := h2
          rw [lexI_cons] at a1 a2
          have kx : ∀ z ∈ xs, keyOk n z = true := fun z m => List.all_eq_true.mp (show xs.all (keyOk n) = true from hx) z m
          have ky : ∀ z ∈ ys, keyOk n z = true := fun z m => List.all_eq_true.mp (show ys.all (keyOk n) = true from hy) z m
          have kz : ∀ w ∈ zs, keyOk n w = true := fun w m => List.all_eq_true.mp (show zs.all (keyOk n) = true from hz) w m
          exact lexLt_trans n xs ys zs kx ky kz a1 a2 ⟨b, h⟩ ⟨c, h'⟩
        | _ => cases h'
      | _ => cases h
    | _ => cases h
theorem lexLt_trans : ∀ (n : Nat) (xs ys zs : List Vl), (∀ z ∈ xs, keyOk n z = true) → (∀ z ∈ ys, keyOk n z = true) → (∀ z ∈ zs, keyOk n z = true) → lexI (encs ys) (encs xs) = false → lexI (encs zs) (encs ys) = false →
    (∃ b, lexLt (keq n) (ltv n) xs ys = some b) → (∃ b, lexLt (keq n) (ltv n) ys zs = some b) → ∃ b, lexLt (keq n) (ltv n) xs zs = some b
  | n, [], ys, [], _, _, _, _, _, _, _ => ⟨_, rfl⟩
  | n, [], ys, _ :: _, _, _, _, _, _, _, _ => ⟨_, rfl⟩
  | n, _ :: _, ys, [], _, _, _, _, _, _, _ => ⟨_, rfl⟩
  | n, x :: xs, [], z :: zs, _, _, _, h1, _, _, _ => by
    have a1 : lexI (0 :: []) (1 :: (enc x ++ encs xs)) = false := h1
    rw [lexI_ne (by decide)] at a1
    cases a1
  | n, x :: xs, y :: ys, z :: zs, kx, ky, kz, h1, h2, ⟨b, h⟩, ⟨c, h'⟩ => by
    have q1 : (match keq n x y with | some c => (match c with | true => lexLt (keq n) (ltv n) xs ys | false => ltv n x y) | none => none) = some b := h
    have q2 : (match keq n y z with | some c => (match c with | true => lexLt (keq n) (ltv n) ys zs | false => ltv n y z) | none => none) = some c := h'
    show ∃ b, (match keq n x z with | some c => (match c with | true => lexLt (keq n) (ltv n) xs zs | false => ltv n x z) | none => none) = some b
    have a1 : lexI (1 :: (enc y ++ encs ys)) (1 :: (enc x ++ encs xs)) = false := h1
    have a2 : lexI (1 :: (enc z ++ encs zs)) (1 :: (enc y ++ encs ys)) = false := h2
    rw [lexI_cons] at a1 a2
    have ox := kx x List.mem_cons_self
    have oy := ky y List.mem_cons_self
    have oz := kz z List.mem_cons_self
    have tl := fun w m => kx w (List.mem_cons_of_mem _ m)
    have tl2 := fun w m => ky w (List.mem_cons_of_mem _ m)
    have tl3 := fun w m => kz w (List.mem_cons_of_mem _ m)
    cases he : keq n x y with
    | none => rw [he] at q1; cases q1
    | some e =>
      rw [he] at q1
      cases hf : keq n y z with
      | none => rw [hf] at q2; cases q2
      | some f =>
        rw [hf] at q2
        cases e with
        | true =>
          have e1 := keq_true n x y he
          subst e1
          rw [lexI_app] at a1
          cases f with
          | true =>
            have e2 := keq_true n x z hf
            subst e2
            rw [lexI_app] at a2
            rw [hf]
            exact lexLt_trans n xs ys zs tl tl2 tl3 a1 a2 ⟨b, q1⟩ ⟨c, q2⟩
          | false => rw [hf]; exact ⟨c, q2⟩
        | false =>
          cases f with
          | true =>
            have e2 := keq_true n y z hf
            subst e2
            rw [he]; exact ⟨b, q1⟩
          | false =>
            -- x below y, y below z
            obtain ⟨b', s1⟩ := Tld.symm n x y ox oy ⟨b, q1⟩
            obtain ⟨c', s2⟩ := Tld.symm n y z oy oz ⟨c, q2⟩
            have m1 := fun u v => ltv_enc n y x b' u v (keq_symm n ox oy he) s1
            have m2 := fun u v => ltv_enc n z y c' u v (keq_symm n oy oz hf) s2
            have eb : b' = false := by rw [← m1 (encs ys) (encs xs)]; exact a1
            have ec : c' = false := by rw [← m2 (encs zs) (encs ys)]; exact a2
            have o1 : lexI (enc y) (enc x) = false := by have := m1 [] []; rw [List.append_nil, List.append_nil, eb] at this; exact this
            have o2 : lexI (enc z) (enc y) = false := by have := m2 [] []; rw [List.append_nil, List.append_nil, ec] at this; exact this
            obtain ⟨g, hg⟩ := keq_total n x z ox oz
            rw [hg]
            cases g with
            | false => exact Tld.trans n x y z ox oy oz o1 o2 ⟨b, q1⟩ ⟨c, q2⟩
            | true =>
              exfalso
              have e3 := keq_true n x z hg
              subst e3
              rcases enc_tri n x y [] [] ox oy he with m | m
              · rw [List.append_nil, List.append_nil, o2] at m; cases m
              · rw [List.append_nil, List.append_nil, o1] at m; cases m
end
theorem insF_all {x : Vl} : ∀ {ys zs : List Vl}, kok x = true → (∀ y ∈ ys, kok y = true) → (∀ a ∈ ys, ∀ b ∈ ys, Tld 60 a b) → Srtd ltE ys → insF x ys = some zs → ∀ y ∈ ys, Tld 60 y x
  | [], _, _, _, _, _, _, y, m => nomatch m
  | y :: ys, zs, hx, hy, ht, hs, h, z, m => by
    have h' : (match ltd y x with | some c => (match c with | true => (match insF x ys with | some zs => some (y :: zs) | none => none) | false => some (x :: y :: ys)) | none => none) = some zs := h
    cases hl : ltd y x with
    | none => rw [hl] at h'; cases h'
    | some c =>
      rw [hl] at h'
      have t0 : Tld 60 y x := ⟨c, hl⟩
      rcases List.mem_cons.mp m with rfl | m
      · exact t0
      · cases c with
        | true =>
          cases hr : insF x ys with
          | none => simp only [hr] at h'; cases h'
          | some ws => exact insF_all hx (fun w m => hy w (List.mem_cons_of_mem _ m)) (fun a ma b mb => ht a (List.mem_cons_of_mem _ ma) b (List.mem_cons_of_mem _ mb)) (List.pairwise_cons.mp hs).2 hr z m
        | false =>
          have ky := hy y List.mem_cons_self
          have kz := hy z (List.mem_cons_of_mem _ m)
          have o1 : ltE y x = false := ltd_ltE ky hx hl
          have o2 : ltE z y = false := srtd_head hs z m
          have t1 := Tld.trans 60 x y z hx ky kz o1 o2 (Tld.symm 60 y x ky hx t0) (ht y List.mem_cons_self z (List.mem_cons_of_mem _ m))
          exact Tld.symm 60 x z hx kz t1
theorem insF_self {x : Vl} : kok x = true → Tld 60 x x := fun h => by
  cases x with
  | int i => exact ⟨_, rfl⟩
  | str s => exact ⟨_, rfl⟩
  | tup xs =>
    have go : ∀ (xs : List Vl), (∀ z ∈ xs, keyOk 59 z = true) → ∃ b, lexLt (keq 59) (ltv 59) xs xs = some b := fun xs => by
      induction xs with
      | nil => exact fun _ => ⟨_, rfl⟩
      | cons y ys ih =>
        intro hk
        obtain ⟨c, hc⟩ := keq_total 59 y y (hk y List.mem_cons_self) (hk y List.mem_cons_self)
        have e := keq_refl 59 y c hc
        subst e
        show ∃ b, (match keq 59 y y with | some c => (match c with | true => lexLt (keq 59) (ltv 59) ys ys | false => ltv 59 y y) | none => none) = some b
        rw [hc]
        exact ih fun w m => hk w (List.mem_cons_of_mem _ m)
    exact go xs fun z m => List.all_eq_true.mp (show xs.all (keyOk 59) = true from h) z m
  | _ => cases h
/-- what was sorted was told of each pair -/
theorem sortL_all : ∀ {xs ys : List Vl}, (∀ x ∈ xs, kok x = true) → sortL xs = some ys → ∀ a ∈ xs, ∀ b ∈ xs, Tld 60 a b
  | [], _, _, _, a, m, _, _ => nomatch m
  | x :: xs, ys, hk, h, a, ma, b, mb => by
    have h' : (match sortL xs with | some ys => insF x ys | none => none) = some ys := h
    cases hs : sortL xs with
    | none => rw [hs] at h'; cases h'
    | some ws =>
      rw [hs] at h'
      have hk' := fun z m => hk z (List.mem_cons_of_mem _ m)
      obtain ⟨h1, h2⟩ := sortL_of hk' hs
      have all := sortL_all hk' hs
      have mem := fun z => (h2.perm.mem_iff (a := z))
      have kx := hk x List.mem_cons_self
      have ins := insF_all kx (fun z m => hk' z ((mem z).mp m)) (fun a ma b mb => all a ((mem a).mp ma) b ((mem b).mp mb)) h1 h'
      rcases List.mem_cons.mp ma with e | ma'
      · rcases List.mem_cons.mp mb with e2 | mb'
        · rw [e, e2]; exact insF_self kx
        · rw [e]; exact Tld.symm 60 _ _ (hk' b mb') kx (ins b ((mem b).mpr mb'))
      · rcases List.mem_cons.mp mb with e2 | mb'
        · rw [e2]; exact ins a ((mem a).mpr ma')
        · exact all a ma' b mb'
end FP
end
section
set_option maxHeartbeats 1000000
namespace FP
open PySem PySem.Spec PyProof.Rows L2 PySem.SeqAt

theorem allK_of {k : Nat} : ∀ {xs : List Vl}, allK k xs = true → ∀ x ∈ xs, kik x = k
  | [], _, x, m => nomatch m
  | y :: ys, h, x, m => by
    have h' : (match Nat.beq (kik y) k with | true => allK k ys | false => false) = true := h
    cases hb : Nat.beq (kik y) k with
    | false => rw [hb] at h'; cases h'
    | true =>
      rw [hb] at h'
      rcases List.mem_cons.mp m with rfl | m
      · exact Nat.eq_of_beq_eq_true hb
      · exact allK_of h' x m
theorem allF_of {k : Nat} : ∀ {xs : List Vl}, allF k xs = true → ∀ x ∈ xs, ∃ f r, x = .tup (f :: r) ∧ kik f = k
  | [], _, x, m => nomatch m
  | y :: ys, h, x, m => by
    cases y with
    | tup zs => cases zs with
      | nil => cases h
      | cons f r =>
        have h' : (match Nat.beq (kik f) k with | true => allF k ys | false => false) = true := h
        cases hb : Nat.beq (kik f) k with
        | false => rw [hb] at h'; cases h'
        | true =>
          rw [hb] at h'
          rcases List.mem_cons.mp m with rfl | m
          · exact ⟨f, r, rfl, Nat.eq_of_beq_eq_true hb⟩
          · exact allF_of h' x m
    | _ => cases h
theorem kik0 {x : Vl} (h : kik x = 0) : ∃ i, x = .int i := by cases x <;> first | exact ⟨_, rfl⟩ | cases h
theorem kik1 {x : Vl} (h : kik x = 1) : ∃ i, x = .str i := by cases x <;> first | exact ⟨_, rfl⟩ | cases h
theorem kik2 {x : Vl} (h : kik x = 2) : ∃ i, x = .tup i := by cases x <;> first | exact ⟨_, rfl⟩ | cases h

section
variable {X : Cx} {G : Gd} {pins : List (Addr × Obj)} {σ : L2.St} {H : Hp} {s : Shared} {φ : List Addr} {η : He}
/-- the datum of a value -/
noncomputable def datum (G : Gd) (φ : List Addr) (H : Hp) (u : Value) : Vl := @dite _ (∃ x, ∃ v, RV G.K φ H x v ∧ RelV v u) (Classical.propDecidable _) (fun h => Classical.choose h) fun _ => .non
theorem datum_of (O : XOk X G) (I : Inv X pins σ H s) (S : Sim G φ η H) {x : Vl} {v : V} {u : Value} (rx : RV G.K φ H x v) (r : RelV v u) : datum G φ H u = x := by
  have h : ∃ x, ∃ v, RV G.K φ H x v ∧ RelV v u := ⟨x, v, rx, r⟩
  unfold datum
  rw [dif_pos h]
  obtain ⟨w, r1, r2⟩ := Classical.choose_spec h
  have e := r2.inj r
  subst e
  exact RV.inj O I S r1 rx
/-- the lexical walk of two tuples -/
theorem katLex (O : XOk X G) (I : Inv X pins σ H s) (S : Sim G φ η H) {A : Around} {n : Nat} (hu : A.units + n < cLine) {c fin : Bool} {Q : Bool → Shared → Prop} : ∀ (xs ys : List Vl) (vs ws : List V) (i1 i2 : List Value) (b : Bool) (i : Nat),
    (∀ x ∈ xs, keyOk n x = true) → (∀ y ∈ ys, keyOk n y = true) → lexLt (keq n) (ltv n) xs ys = some b → fin = decide (xs.length < ys.length) → RVs G.K φ H xs vs → RVs G.K φ H ys ws → Vals vs i1 → Vals ws i2 →
    (c = true → i = 0 → ∀ x y, xs[0]? = some x → ys[0]? = some y → (kik x = 0 ∧ kik y = 0) ∨ (kik x = 1 ∧ kik y = 1)) → Q b s → PySem.W.KatLex X.prog X.w A c fin Q (i1.zip i2) i s
  | [], [], vs, ws, i1, i2, b, i, _, _, h, hf, R1, R2, V1, V2, _, q => by
    cases R1.inv_nil; cases R2.inv_nil; cases V1; cases V2
    cases h
    refine PySem.W.kat_nil ?_
    rw [hf]; exact q
  | [], y :: ys, vs, ws, i1, i2, b, i, _, _, h, hf, R1, R2, V1, V2, _, q => by
    cases R1.inv_nil; cases V1
    cases h
    show PySem.W.KatLex X.prog X.w A c fin Q [] i s
    refine PySem.W.kat_nil ?_
    rw [hf]; exact (show Q (decide (0 < ys.length + 1)) s by rw [decide_eq_true (Nat.succ_pos _)]; exact q)
  | x :: xs, [], vs, ws, i1, i2, b, i, _, _, h, hf, R1, R2, V1, V2, _, q => by
    cases R2.inv_nil; cases V2
    cases h
    rw [List.zip_nil_right]
    refine PySem.W.kat_nil ?_
    rw [hf]; exact (show Q (decide (xs.length + 1 < 0)) s by rw [decide_eq_false (Nat.not_lt_zero _)]; exact q)
  | x :: xs, y :: ys, vs, ws, i1, i2, b, i, hk, hk', h, hf, R1, R2, V1, V2, hc, q => by
    obtain ⟨v, vs, rfl, rx, R1⟩ := R1.inv_cons
    obtain ⟨w, ws, rfl, ry, R2⟩ := R2.inv_cons
    cases V1 with
    | @cons _ u1 _ us1 ru1 V1 => cases V2 with
      | @cons _ u2 _ us2 ru2 V2 =>
        have h' : (match keq n x y with | some c => (match c with | true => lexLt (keq n) (ltv n) xs ys | false => ltv n x y) | none => none) = some b := h
        have kx := hk x List.mem_cons_self
        have ky := hk' y List.mem_cons_self
        show PySem.W.KatLex X.prog X.w A c fin Q ((u1, u2) :: us1.zip us2) i s
        cases he : keq n x y with
        | none => rw [he] at h'; cases h'
        | some e =>
          rw [he] at h'
          refine PySem.W.kat_cons ((eqv_rel O I S n A hu x y v w u1 u2 e (keq_eqv n x y e he) rx ry ru1 ru2).2 _ _ _ _ ?_)
          cases e with
          | true =>
            refine PySem.W.kat_yes (katLex O I S hu xs ys vs ws us1 us2 b (i + 1) (fun z m => hk z (List.mem_cons_of_mem _ m)) (fun z m => hk' z (List.mem_cons_of_mem _ m)) h' ?_ R1 R2 V1 V2 (fun _ e => absurd e (Nat.succ_ne_zero i)) q)
            rw [hf]
            show decide (xs.length + 1 < ys.length + 1) = _
            simp
          | false =>
            have hl : ltv n x y = some b := h'
            refine PySem.W.kat_no ?_
            cases hci : (c && i == 0) with
            | false =>
              refine PySem.W.kat_one u1 u2 ?_
              exact rcLt O I S n A hu x y v w u1 u2 b kx ky hl rx ry ru1 ru2 _ _ _ _ q
            | true =>
              rw [Bool.and_eq_true] at hci
              have hi : i = 0 := eq_of_beq hci.2
              rcases hc hci.1 hi x y rfl rfl with ⟨k1, k2⟩ | ⟨k1, k2⟩
              · obtain ⟨a, rfl⟩ := kik0 k1
                obtain ⟨a', rfl⟩ := kik0 k2
                cases rx.ofInt; cases ry.ofInt
                obtain ⟨t, rfl⟩ := ru1
                obtain ⟨t', rfl⟩ := ru2
                cases n with
                | zero => cases hl
                | succ n =>
                  have hl' : some (iblt a a') = some b := hl
                  rw [iblt_eq] at hl'
                  refine oneLt_int ?_
                  rw [Option.some.inj hl']; exact q
              · obtain ⟨a, rfl⟩ := kik1 k1
                obtain ⟨a', rfl⟩ := kik1 k2
                have e1 : v = .str (strOf a) := by cases rx; rfl
                have e2 : w = .str (strOf a') := by cases ry; rfl
                subst e1; subst e2
                obtain ⟨t, rfl⟩ := ru1
                obtain ⟨t', rfl⟩ := ru2
                cases n with
                | zero => cases hl
                | succ n =>
                  have hl' : some (slt a a') = some b := hl
                  rw [slt_eq] at hl'
                  refine PyProof.Rows.oneLt_any_str ?_
                  show Q (decide (a < a')) s
                  rw [Option.some.inj hl']; exact q
theorem firsts_kat {h : Heap} {vs : List Value} (hf : ∀ v ∈ vs, ∃ (a : Addr) (o : Obj) (zs : Array Value) (n : Nat) (f : Value), v = .ref a ∧ h.get? a = some o ∧ o.cls = .type "tuple" ∧ o.data = .seq zs n ∧ zs[0]? = some f) : ∃ fs, PySem.W.KatTups h vs fs ∧ fs.length = vs.length ∧ ∀ f ∈ fs, ∃ v ∈ vs, ∃ (a : Addr) (o : Obj) (zs : Array Value) (n : Nat), v = .ref a ∧ h.get? a = some o ∧ o.data = .seq zs n ∧ zs[0]? = some f := by
  induction vs with
  | nil => exact ⟨[], PySem.W.KatTups.nil, rfl, fun f m => nomatch m⟩
  | cons v vs ih =>
    obtain ⟨a, o, zs, n, f, e, ho, hc, hd, hz⟩ := hf v List.mem_cons_self
    obtain ⟨fs, h1, h2, h3⟩ := ih fun u m => hf u (List.mem_cons_of_mem _ m)
    subst e
    refine ⟨f :: fs, PySem.W.KatTups.cons ho hc hd hz h1, by simp [h2], fun g m => ?_⟩
    rcases List.mem_cons.mp m with rfl | m
    · exact ⟨_, List.mem_cons_self, a, o, zs, n, rfl, ho, hd, hz⟩
    · obtain ⟨u, m', q⟩ := h3 g m
      exact ⟨u, List.mem_cons_of_mem _ m', q⟩
theorem vals_abs : ∀ {us : List Value}, (∀ u ∈ us, ∃ v, RelV v u) → Vals (us.map fun u => (absV u).getD .non) us
  | [], _ => .nil
  | u :: us, h => by
    obtain ⟨v, r⟩ := h u List.mem_cons_self
    refine .cons ?_ (vals_abs fun w m => h w (List.mem_cons_of_mem _ m))
    show RelV ((absV u).getD .non) u
    rw [r.abs]; exact r
theorem sorted_rel (O : XOk X G) (I : Inv X pins σ H s) (S : Sim G φ η H) {a : Addr} {xs ys : List Vl} {vs : List V} {Q : VK} (hq : SqL G.K H a vs) (R : RVs G.K φ H xs vs) (ho : sortOk xs = true) (hs : sortL xs = some ys)
    (q : ∀ p ws, H p = none → RVs G.K φ H ys ws → Q (.ref p) (upd H p (.lst ws))) : wpAny (model X.prog X.w) X.A (call (.builtin "sorted") [.ref a]) (EP X pins σ Q) X.xe s := by
  obtain ⟨its, rv, hl, hz⟩ := I.list (by rw [O.K]; exact hq)
  have hlen := rv.length
  -- each item, with its datum
  have at' : ∀ u ∈ its, ∃ x v, x ∈ xs ∧ RV G.K φ H x v ∧ RelV v u := fun u hu => by
    obtain ⟨j, hj⟩ := List.getElem?_of_mem hu
    obtain ⟨v, hv, r⟩ := getV rv hj
    obtain ⟨x, hx, rx⟩ := R.getR hv
    exact ⟨x, v, List.mem_of_getElem? hx, rx, r⟩
  have hmap : its.map (datum G φ H) = xs := by
    refine List.ext_getElem? fun j => ?_
    rw [List.getElem?_map]
    cases hj : its[j]? with
    | none =>
      have : xs[j]? = none := by rw [List.getElem?_eq_none_iff] at hj ⊢; have := R.1; omega
      rw [this]; rfl
    | some u =>
      obtain ⟨v, hv, r⟩ := getV rv hj
      obtain ⟨x, hx, rx⟩ := R.getR hv
      rw [hx]
      exact congrArg some (datum_of O I S rx r)
  have hk : ∀ x ∈ xs, kok x = true := by
    unfold sortOk at ho
    cases xs with
    | nil => exact fun x m => nomatch m
    | cons x r =>
      cases x with
      | int i => exact fun y m => by obtain ⟨j, rfl⟩ := kik0 (allK_of ho y m); rfl
      | tup zs => cases zs with
        | nil => cases ho
        | cons f zs =>
          simp only at ho
          cases hf : allF (kik f) (.tup (f :: zs) :: r) with
          | false => simp only [hf] at ho; cases ho
          | true => simp only [hf] at ho; exact fun y m => List.all_eq_true.mp ho y m
      | _ => cases ho
  obtain ⟨o1, o2⟩ := sortL_of hk hs
  have swoV : SrtO.Swo fun u w => ltE (datum G φ H u) (datum G φ H w) := ⟨fun x y h => swo.asym _ _ h, fun x y z h1 h2 => swo.tr _ _ _ h1 h2⟩
  have u0 := O.units
  refine SrtO.sorted_ord swoV hl.isList (by rw [← hlen]; exact hz) (fun h2 h₁ a' ha' kk => ?_) fun out k1 k2 => ?_
  · -- the items may be sorted so
    intro h' keep
    have I' : Inv X pins σ H { s with heap := h' } := I.kept (t' := s.toks) fun b o e => keep b o (kk b o e).1 (kk b o e).2
    have hu : X.A.in1.in1.units + 60 < cLine := by show X.A.units + 1 + 1 + 60 < cLine; omega
    unfold sortOk at ho
    cases xs with
    | nil => have := R.1; simp at this; omega
    | cons x r =>
      cases x with
      | int i =>
        have hI : ∀ u ∈ its, ∃ j t, u = .int j t ∧ datum G φ H u = .int j := fun u m => by
          obtain ⟨x, v, hx, rx, r⟩ := at' u m
          obtain ⟨j, rfl⟩ := kik0 (allK_of ho x hx)
          cases rx.ofInt
          obtain ⟨t, e⟩ := r
          exact ⟨j, t, e, datum_of O I S (.int j) ⟨t, e⟩⟩
        have hA : IntsAre its (its.map SrtO.iv) := SrtO.ints_iv fun u m => by obtain ⟨j, t, e, _⟩ := hI u m; exact ⟨j, t, e⟩
        refine ⟨oneType', fun Q E hq => ?_, fun p q hm hm' => ?_⟩
        · clear at' hmap hl
          match its, hA, h2 with
          | v1 :: v2 :: rest, hA, _ => rw [keyKind_ints hA]; exact wpAny_pure hq
          | [], _, h => exact absurd h (by decide)
          | [v], _, h => exact absurd h (by simp)
        · obtain ⟨j, t, e, d1⟩ := hI _ hm
          obtain ⟨j', t', e', d2⟩ := hI _ hm'
          show wpAny _ _ (keyLt' oneType' p.1 q.1) (fun r s' => s' = _ ∧ r = ltE (datum G φ H p.1) (datum G φ H q.1)) _ _
          rw [d1, d2, e, e', keyLt'_oneType]
          refine oneLt_int ⟨rfl, ?_⟩
          show decide (j < j') = lexI (0 :: j :: []) (0 :: j' :: [])
          rw [lexI_cons]
          by_cases hj : j = j'
          · subst hj; rw [lexI_cons]; simp [lexI]
          · rw [lexI_ne hj]
      | tup zs => cases zs with
        | nil => cases ho
        | cons f zs =>
          simp only at ho
          cases hf : allF (kik f) (.tup (f :: zs) :: r) with
          | false => simp only [hf] at ho; cases ho
          | true =>
            simp only [hf] at ho
            have hF := allF_of hf
            have hKn : ∀ x ∈ (Vl.tup (f :: zs) :: r), ∀ g gs, x = .tup (g :: gs) → keyOk 59 g = true := fun x m g gs e => by
              subst e
              have h1 : keyOk 60 (.tup (g :: gs)) = true := hk _ m
              have h2 : (g :: gs).all (keyOk 59) = true := h1
              exact List.all_eq_true.mp h2 g List.mem_cons_self
            have hT : ∀ u ∈ its, ∃ (g : Vl) (gs : List Vl) (b : Addr) (o : Obj) (ws : List V) (i1 : List Value) (n : Nat), u = .ref b ∧ datum G φ H u = .tup (g :: gs) ∧ (Vl.tup (g :: gs)) ∈ (Vl.tup (f :: zs) :: r) ∧ kik g = kik f ∧ RVs G.K φ H (g :: gs) ws ∧ Vals ws i1 ∧ h'.get? b = some o ∧ o.cls = .type "tuple" ∧ o.data = .seq i1.toArray n := fun u m => by
              obtain ⟨x, v, hx, rx, ru⟩ := at' u m
              obtain ⟨g, gs, rfl, hg⟩ := hF x hx
              have hd := datum_of O I S rx ru
              cases rx with
              | @tup _ b ws hq hl2 hx2 =>
                cases (show u = Value.ref b from ru)
                obtain ⟨i1, rv1, o, h1, h2, n, h3⟩ := tupAt O I' hq.t
                exact ⟨g, gs, b, o, ws, i1, n, rfl, hd, hx, hg, ⟨hl2, hx2⟩, rv1, h1, h2, h3⟩
            obtain ⟨fs, g1, g2, g3⟩ := firsts_kat (h := h') (vs := its) fun u m => by
              obtain ⟨g, gs, b, o, ws, i1, n, e1, e2, e3, e4, e5, e6, e7, e8, e9⟩ := hT u m
              have hne : ∃ f, i1.toArray[0]? = some f := by
                obtain ⟨w, ws', ew, _, _⟩ := e5.inv_cons
                subst ew
                cases e6 with
                | @cons _ u1 _ us1 _ _ => exact ⟨u1, by simp⟩
              obtain ⟨f, hf⟩ := hne
              exact ⟨b, o, i1.toArray, n, f, e1, e7, e8, e9, hf⟩
            -- the first things: their datum's kind
            have first : ∀ u ∈ fs, ∃ g v, kik g = kik f ∧ RV G.K φ H g v ∧ RelV v u := fun u m => by
              obtain ⟨v, mv, b', o', zs', n', e, h1, h3, h4⟩ := g3 u m
              obtain ⟨g, gs, b, o, ws, i1, n, e1, e2, e3, e4, e5, e6, e7, e8, e9⟩ := hT v mv
              rw [e] at e1; cases e1
              rw [h1] at e7; cases e7
              rw [h3] at e9; cases e9
              obtain ⟨w, ws, rfl, rg, _⟩ := e5.inv_cons
              cases e6 with
              | cons ru _ =>
                simp at h4
                subst h4
                exact ⟨g, w, e4, rg, ru⟩
            have hKey : kik f < 3 := by
              have := hKn _ List.mem_cons_self f zs rfl
              cases f <;> first | (show 0 < 3; omega) | (show 1 < 3; omega) | (show 2 < 3; omega) | cases this
            -- one type of the first things
            have cmp : ∀ c, (c = true → kik f < 2) → SrtO.Cmp X.prog X.w X.A.in1.in1 { s with heap := h' } (tuples' c) (fun p => p.1 ∈ its) (SrtO.lt2 fun u w => ltE (datum G φ H u) (datum G φ H w)) := fun c hc p q hm hm' => by
              obtain ⟨g, gs, b, o, ws, i1, n, e1, e2, e3, e4, e5, e6, e7, e8, e9⟩ := hT _ hm
              obtain ⟨g', gs', b', o', ws', i1', n', e1', e2', e3', e4', e5', e6', e7', e8', e9'⟩ := hT _ hm'
              show wpAny _ _ (keyLt' (tuples' c) p.1 q.1) (fun r s' => s' = _ ∧ r = ltE (datum G φ H p.1) (datum G φ H q.1)) _ _
              rw [e2, e2', e1, e1']
              have l1 := e6.length
              have l2 := e6'.length
              have m1 := e5.1
              have m2 := e5'.1
              obtain ⟨bb, hb⟩ := sortL_all hk hs _ e3 _ e3'
              have hlE : ltE (.tup (g :: gs)) (.tup (g' :: gs')) = bb := ltd_ltE (hk _ e3) (hk _ e3') hb
              have hsz : ∀ (c : Bool), wpAny (model X.prog X.w) X.A.in1.in1 (keyLt' (tuples' c) (.ref b) (.ref b')) (fun r s' => s' = { s with heap := h' } ∧ r = bb) (fun _ _ => False) { s with heap := h' } ↔ wpAny (model X.prog X.w) X.A.in1.in1 (keyLt' (tuples' c) (.ref b) (.ref b')) (fun r s' => s' = { s with heap := h' } ∧ r = ltE (.tup (g :: gs)) (.tup (g' :: gs'))) (fun _ _ => False) { s with heap := h' } := fun c => by rw [hlE]
              rw [← hsz c]
              refine PySem.W.kat_lt e7 e9 e7' e9' ?_
              refine katLex O I' S (n := 59) (by show X.A.units + 1 + 1 + 59 < cLine; omega) (g :: gs) (g' :: gs') ws ws' i1 i1' bb 0 (fun z m => ?_) (fun z m => ?_) hb ?_ e5 e5' e6 e6' (fun hcc _ z z' hz hz' => ?_) ⟨rfl, rfl⟩
              · have h1 : keyOk 60 (.tup (g :: gs)) = true := hk _ e3
                exact List.all_eq_true.mp (show (g :: gs).all (keyOk 59) = true from h1) z m
              · have h1 : keyOk 60 (.tup (g' :: gs')) = true := hk _ e3'
                exact List.all_eq_true.mp (show (g' :: gs').all (keyOk 59) = true from h1) z m
              · rw [List.size_toArray, List.size_toArray, ← l1, ← l2, ← m1, ← m2]
              · simp at hz hz'
                subst hz; subst hz'
                have := hc hcc
                rw [e4, e4']
                have h3 : kik f = 0 ∨ kik f = 1 := by omega
                rcases h3 with h3 | h3
                · exact .inl ⟨h3, h3⟩
                · exact .inr ⟨h3, h3⟩
            have hpos : 0 < fs.length := by omega
            have h3 : kik f = 0 ∨ kik f = 1 ∨ kik f = 2 := by omega
            rcases h3 with h3 | h3 | h3
            · refine ⟨tuples' true, fun Q E hq => ?_, cmp true fun _ => by omega⟩
              refine PySem.W.kat_kind (T := .type "int") g1 hpos (fun u m => ?_) rfl ?_
              · obtain ⟨g, v, hg, rg, ru⟩ := first u m
                obtain ⟨i, rfl⟩ := kik0 (hg.trans h3)
                cases rg.ofInt
                obtain ⟨t, rfl⟩ := ru
                exact PySem.W.Looks.now
              · have e : (Value.type "int" != Value.type "tuple") = true := by decide +kernel
                rw [e]; exact hq
            · refine ⟨tuples' true, fun Q E hq => ?_, cmp true fun _ => by omega⟩
              refine PySem.W.kat_kind (T := .type "str") g1 hpos (fun u m => ?_) rfl ?_
              · obtain ⟨g, v, hg, rg, ru⟩ := first u m
                obtain ⟨i, rfl⟩ := kik1 (hg.trans h3)
                have e1 : v = .str (strOf i) := by cases rg; rfl
                subst e1
                obtain ⟨t, rfl⟩ := ru
                exact PySem.W.Looks.now
              · have e : (Value.type "str" != Value.type "tuple") = true := by decide +kernel
                rw [e]; exact hq
            · refine ⟨tuples' false, fun Q E hq => ?_, cmp false fun h => nomatch h⟩
              refine PySem.W.kat_kind (T := .type "tuple") g1 hpos (fun u m => ?_) rfl ?_
              · obtain ⟨g, v, hg, rg, ru⟩ := first u m
                obtain ⟨i, rfl⟩ := kik2 (hg.trans h3)
                cases rg with
                | @tup _ b ws hq hl2 hx2 =>
                  cases (show u = Value.ref b from ru)
                  obtain ⟨i1, rv1, o, h1, h2, n, h4⟩ := tupAt O I' hq.t
                  rw [← h2]
                  exact (PySem.W.Looks.ld h1).andThen .now
              · have e : (Value.type "tuple" != Value.type "tuple") = false := by decide +kernel
                rw [e]; exact hq
      | _ => cases ho
  · have hR := SrtO.stb_uniq swo (SrtO.srtd_map (f := datum G φ H) k1) o1 (((SrtO.Stb.map swo (datum G φ H) k2).trans (SrtO.Stb.of_eq hmap)).trans ⟨o2.perm.symm, fun x => (o2.cls x).symm⟩)
    have hm : ∀ u ∈ out, ∃ x v, RV G.K φ H x v ∧ RelV v u := fun u m => by
      obtain ⟨x, v, _, rx, r⟩ := at' u (k2.perm.mem_iff.mp m)
      exact ⟨x, v, rx, r⟩
    have vv := vals_abs (us := out) fun u m => by obtain ⟨x, v, _, r⟩ := hm u m; exact ⟨v, r⟩
    obtain ⟨ep, he'⟩ := sortedAll_at s.heap its out.toArray
    have hlen2 : (out.map fun u => (absV u).getD .non).length ≤ sizeLine := by
      rw [List.length_map, k2.perm.length_eq, ← hlen]; exact hz
    refine ⟨.ref _, upd H (s.heap.objs.size + 1) (.lst (out.map fun u => (absV u).getD .non)), I.laid (t' := s.toks) (fun _ _ => sortedAll_old) (Nat.le_succ _) ⟨hlen2, out, ep, vv, he'⟩, rfl, q _ _ (I.hok.fresh (Nat.le_succ _)) ?_⟩
    rw [← hR]
    refine ⟨by simp, fun j x v hx hv => ?_⟩
    rw [List.getElem?_map] at hx hv
    cases hj : out[j]? with
    | none => rw [hj] at hx; cases hx
    | some u =>
      rw [hj] at hx hv
      obtain ⟨y, w, ry, r⟩ := hm u (List.mem_of_getElem? hj)
      have e1 : x = y := by rw [← Option.some.inj hx]; exact datum_of O I S ry r
      have e2 : v = w := by
        have h2 : (absV u).getD .non = v := Option.some.inj hv
        rw [← h2, r.abs]; rfl
      rw [e1, e2]; exact ry
/-- sorted(xs): a new list -/
theorem l_sorted (O : XOk X G) {a : Expr} {f : EvQ} {np pos : Pos} (B : Bn X "sorted" (.builtin "sorted")) (hn : ∀ v p, a ≠ .Starred v p) (ha : SQl X G a f) : SL X G (.Call (.Name "sorted" np) [a] [] pos) (qSorted f) := fun W tk => by
  have hc : CallR X (.builtin "sorted") (fun vs H Q => ∃ (a : Addr) (φ : List Addr) (η : He) (xs ys : List Vl) (ws : List V), vs = [.ref a] ∧ Sim G φ η H ∧ SqL G.K H a ws ∧ RVs G.K φ H xs ws ∧ sortOk xs = true ∧ sortL xs = some ys ∧ ∀ p ws', H p = none → RVs G.K φ H ys ws' → Q (.ref p) (upd H p (.lst ws'))) := by
    intro pins s σ H xs us Q I r ⟨a, φ, η, xs, ys, ws, e, S, hq, R, h1, h2, q⟩
    subst e
    rw [Vals.ref1 r]
    exact sorted_rel O I S hq R h1 h2 q
  refine ⟨fun pins s σ H Q I ⟨φ, η, r, S, E, p⟩ => (pe_callU B (.inl ⟨_, rfl⟩) hc (pa_cons (ha W tk) pa_nil (starEach_cons hn)) (NoStar.one hn)).run pins s σ H Q I ⟨φ, η, r, S, E, ?_⟩⟩
  have p' : Post G (RL G H) (fun c d H' => W c d σ H') φ H ((f r η).bind fun xs h => match sortOk xs with | true => (match sortL xs with | some ys => .ok ys h | none => .bad 80) | false => .bad 80) Q := p
  cases hf : f r η with
  | bad n => rw [hf] at p'; exact p'
  | ex c v η' => rw [hf] at p'; exact p'
  | ok xs η' =>
    rw [hf] at p'
    rintro φ1 H1 v e1 S1 ⟨a, vs, rfl, ha, R1⟩
    have p2 : Post G (RL G H) (fun c d H' => W c d σ H') φ H (match sortOk xs with | true => (match sortL xs with | some ys => .ok ys η' | none => .bad 80) | false => .bad 80) Q := p'
    cases h1 : sortOk xs with
    | false => simp only [h1] at p2; exact p2.elim
    | true =>
      simp only [h1] at p2
      cases h2 : sortL xs with
      | none => simp only [h2] at p2; exact p2.elim
      | some ys =>
        simp only [h2] at p2
        refine ⟨a, φ1, η', xs, ys, vs, rfl, S1, ha, R1, h1, h2, fun q ws hq R2 => ?_⟩
        exact p2 φ1 _ (.ref q) (e1.trans (Evo.upd hq)) (S1.upd hq) ⟨q, ws, rfl, e1.fresh S1.trk hq, upd_same, S1.notIn hq, R2.evo (Evo.upd hq) S1.trk⟩
end
end FP
end
section
namespace FPX
open PySem PySem.Spec PyProof.Rows L2
section
variable {X : Cx}
/-- o.f = .. as a target -/
def gFld (K : PySem.W.Frag) (ta : TE) (f : Str) : TG := fun v σ H Q => ta σ H fun x H2 => ∃ a C dx fs, x = .ref a ∧ H2 a = some (.ins C dx fs) ∧ Cls K C ∧ NoAttr K C f ∧ fs.length < 1000 ∧ Q σ (upd H2 a (.ins C dx (putF f v fs)))
theorem pg_fld {o : Expr} {f : Str} {pos : Pos} {ta : TE} (ho : PE X o ta) : PG X (.Attribute o f pos) (gFld X.K ta f) := by
  refine ⟨fun pins s σ H v u Q I r h => ?_⟩
  show wpAny _ _ (do
    let ov ← holding [u] (eval o X.env)
    standAt pos.atName
    holding [u, ov] (setAttr ov f u)
    release [u, ov] []) _ _ _
  refine wpAny_bind (wpAny_holding (thn (ho.run pins s σ H _ I h) fun ov s1 ⟨x, H1, I1, r1, a, C, dx, fs, ex, ea, c, n, l, q⟩ => ?_))
  subst ex
  obtain rfl : ov = Value.ref a := r1
  refine wpAny_bind (wpAny_standAt (wpAny_bind (wpAny_holding ?_)))
  exact setattr_ok I1 ea c n l r fun s3 I3 => wpAny_release ⟨σ, _, I3, q⟩
end
end FPX
namespace FP
open PySem PySem.Spec PyProof.Rows L2 PySem.SeqAt

section
variable {X : Cx} {G : Gd}
def PostG (G : Gd) (n : Nat) (φ : List Addr) (H : Hp) (x : Rs Env) (Q : L2.St → Hp → Prop) : Prop := match x with
  | .ok r' η' => ∀ φ' H' σ', Evo φ H φ' H' → Sim G φ' η' H' → EnvR G n φ' H' r' σ' → Q σ' H'
  | _ => False
/-- IR: what comes in; L: the slots that may be set -/
def rg (G : Gd) (IR : List Addr → Hp → Vl → V → Prop) (n : Nat) (L : List Nat) (g : EvG) : TG := fun v σ H Q => ∃ φ η r x, Sim G φ η H ∧ EnvR G n φ H r σ ∧ IR φ H x v ∧ PostG G n φ H (g x r η) fun σ' H' => wipe σ' L = wipe σ L → Q σ' H'
def SGi (X : Cx) (G : Gd) (IR : List Addr → Hp → Vl → V → Prop) (L : List Nat) (tg : Expr) (g : EvG) : Prop := PG X tg (rg G IR X.N.length L g)
abbrev SG (X : Cx) (G : Gd) (L : List Nat) (tg : Expr) (g : EvG) : Prop := SGi X G (RVl G) L tg g
theorem wipe_put {σ : L2.St} {i : Nat} {v : Option V} : ∀ {L : List Nat}, i ∈ L → wipe (σ.set i v) L = wipe σ L
  | [], h => nomatch h
  | j :: L, h => by
    show (wipe (σ.set i v) L).set j none = (wipe σ L).set j none
    by_cases e : i ∈ L
    · rw [wipe_put e]
    · have hj : i = j := by rcases List.mem_cons.mp h with h | h; exact h; exact absurd h e
      subst hj
      have go : ∀ (L : List Nat), i ∉ L → wipe (σ.set i v) L = (wipe σ L).set i v := fun L => by
        induction L with
        | nil => exact fun _ => rfl
        | cons k L ih =>
          intro hk
          show (wipe (σ.set i v) L).set k none = ((wipe σ L).set k none).set i v
          rw [ih fun m => hk (List.mem_cons_of_mem _ m), List.set_comm _ _ (fun e => hk (by rw [e]; exact List.mem_cons_self))]
      rw [go L e, List.set_set]
theorem PostG.imp {n : Nat} {φ : List Addr} {H : Hp} {x : Rs Env} {Q Q' : L2.St → Hp → Prop} (p : PostG G n φ H x Q) (i : ∀ σ H, Q σ H → Q' σ H) : PostG G n φ H x Q' := by
  cases x with
  | ok r' η' => exact fun φ' H' σ' e S E => i _ _ (p φ' H' σ' e S E)
  | ex _ _ _ => exact p
  | bad _ => exact p
theorem pgWeak {e : Expr} {t t' : TG} (h : PG X e t) (i : ∀ v σ H Q, t' v σ H Q → t v σ H Q) : PG X e t' := ⟨fun pins s σ H v u Q I r q => h.run pins s σ H v u Q I r (i v σ H Q q)⟩
theorem PostG.from {n : Nat} {φ φ1 : List Addr} {H H1 : Hp} {x : Rs Env} {Q : L2.St → Hp → Prop} (e : Evo φ H φ1 H1) (h : PostG G n φ H x Q) : PostG G n φ1 H1 x Q := by
  cases x with
  | ok r' η' => exact fun φ' H' σ' e2 => h φ' H' σ' (e.trans e2)
  | ex _ _ _ => exact h
  | bad _ => exact h
theorem g_nm {i : Nat} {x : Str} {pos : Pos} {L : List Nat} (O : XOk X G) (hi : X.N[i]? = some x) (hx : Loc X.env.scope x) (hf : X.fn x = true ∨ X.env.scope.names.lookup x = some .local) (hL : i ∈ L) : SG X G L (.Name x pos) (gNm (sOf i)) := by
  refine pgWeak (pg_name O.nd hi hx hf) fun v σ H Q ⟨φ, η, r, y, S, E, R, p⟩ => ?_
  have hi' : i < X.N.length := (List.getElem?_eq_some_iff.mp hi).1
  exact p φ H _ Evo.refl S (E.set hi' O.few R) (wipe_put hL)
/-- several -/
def rgs (G : Gd) (n : Nat) (L : List Nat) (gs : List EvG) : TGs := fun vs σ H Q => ∃ φ η r xs, Sim G φ η H ∧ EnvR G n φ H r σ ∧ RVs G.K φ H xs vs ∧ PostG G n φ H (gEach gs xs r η) fun σ' H' => wipe σ' L = wipe σ L → Q σ' H'
def SGs (X : Cx) (G : Gd) (L : List Nat) (tgs : List Expr) (gs : List EvG) : Prop := PGs X tgs (rgs G X.N.length L gs)
theorem pgsWeak {e : List Expr} {t t' : TGs} (h : PGs X e t) (i : ∀ v σ H Q, t' v σ H Q → t v σ H Q) : PGs X e t' := ⟨fun pins s σ H v u Q I r q => h.run pins s σ H v u Q I r (i v σ H Q q)⟩
theorem gs_nil {L : List Nat} : SGs X G L [] [] := by
  refine pgsWeak pgs_nil fun vs σ H Q ⟨φ, η, r, xs, S, E, R, p⟩ => ?_
  cases xs with
  | nil => exact ⟨R.inv_nil, p φ H σ Evo.refl S E rfl⟩
  | cons _ _ => exact p.elim
theorem gEach_cons {g : EvG} {gs : List EvG} {v : Vl} {vs : List Vl} {r : Env} {h : He} : gEach (g :: gs) (v :: vs) r h = (g v r h).bindN fun r h => gEach gs vs r h := rfl
theorem PostG.bindN {n : Nat} {φ : List Addr} {H : Hp} {x : Rs Env} {k : Env → He → Rs Env} {Q : L2.St → Hp → Prop} (p : PostG G n φ H (x.bindN k) Q) :
    PostG G n φ H x fun σ1 H1 => ∃ φ1 η1 r1, Evo φ H φ1 H1 ∧ Sim G φ1 η1 H1 ∧ EnvR G n φ1 H1 r1 σ1 ∧ PostG G n φ1 H1 (k r1 η1) Q := by
  cases x with
  | ok r' η' => exact fun φ' H' σ' e S E => ⟨φ', η', r', e, S, E, PostG.from e p⟩
  | ex _ _ _ => exact p
  | bad _ => exact p
theorem starEach_assign {e : Expr} {es : List Expr} {env : PySem.Env} (h : ∀ v p, e ≠ .Starred v p) : assignEach (e :: es) env = (false, assign e env) :: assignEach es env := by
  cases e <;> first | rfl | exact absurd rfl (h _ _)
theorem gs_cons {e : Expr} {es : List Expr} {g : EvG} {gs : List EvG} {L : List Nat} (hn : ∀ v p, e ≠ .Starred v p) (h : SG X G L e g) (t : SGs X G L es gs) : SGs X G L (e :: es) (g :: gs) := by
  refine pgsWeak (pgs_cons h t (by rw [starEach_assign hn]; rfl)) fun vs σ H Q ⟨φ, η, r, xs, S, E, R, p⟩ => ?_
  cases xs with
  | nil => exact p.elim
  | cons x xs =>
    obtain ⟨v, ws, rfl, rx, R⟩ := R.inv_cons
    rw [gEach_cons] at p
    refine ⟨v, ws, rfl, φ, η, r, x, S, E, rx, ?_⟩
    have p1 := PostG.bindN p
    cases hg : g x r η with
    | ok r' η' =>
      rw [hg] at p1
      intro φ' H' σ' e S' E' hw
      obtain ⟨φ1, η1, r1, e1, S1, E1, p2⟩ := p1 φ' H' σ' e S' E'
      exact ⟨φ1, η1, r1, xs, S1, E1, R.evo e1 S.trk, p2.imp fun σ2 H2 q hw2 => q (hw2.trans hw)⟩
    | ex _ _ _ => rw [hg] at p1; exact p1
    | bad _ => rw [hg] at p1; exact p1
theorem noStar_find : ∀ {es : List Expr} {env : PySem.Env}, NoStar es → (assignEach es env).findIdx? (·.1) = none
  | [], _, _ => rfl
  | e :: es, env, h => by
    rw [starEach_assign (h e List.mem_cons_self), List.findIdx?_cons]
    rw [if_neg Bool.false_ne_true, noStar_find fun e' m => h e' (List.mem_cons_of_mem _ m)]; rfl
theorem noStar_len : ∀ {es : List Expr} {env : PySem.Env}, NoStar es → (assignEach es env).length = es.length
  | [], _, _ => rfl
  | e :: es, env, h => by
    rw [starEach_assign (h e List.mem_cons_self), List.length_cons, List.length_cons, noStar_len fun e' m => h e' (List.mem_cons_of_mem _ m)]
theorem gEach_len {n : Nat} {Q : L2.St → Hp → Prop} : ∀ {gs : List EvG} {xs : List Vl} {r : Env} {h : He} {φ : List Addr} {H : Hp}, PostG G n φ H (gEach gs xs r h) Q → gs.length = xs.length
  | [], [], _, _, _, _, _ => rfl
  | [], _ :: _, _, _, _, _, p => p.elim
  | _ :: _, [], _, _, _, _, p => p.elim
  | g :: gs, x :: xs, r, h, φ, H, p => by
    rw [gEach_cons] at p
    cases hg : g x r h with
    | ok r' η' =>
      rw [hg] at p
      rw [List.length_cons, List.length_cons, gEach_len (show PostG G n φ H (gEach gs xs r' η') Q from p)]
    | ex _ _ _ => rw [hg] at p; exact p.elim
    | bad _ => rw [hg] at p; exact p.elim
/-- a, b, .. = a tuple or a list -/
theorem g_tup (O : XOk X G) {es : List Expr} {gs : List EvG} {k : Nat} {pos : Pos} {L : List Nat} (hl : gs.length = es.length) (hn : NoStar es) (h : SGs X G L es gs) : SG X G L (.Tuple es k pos) (gTup gs) := by
  refine ⟨fun pins s σ H v u Q I r ⟨φ, η, ρ, y, S, E, R, p⟩ => ?_⟩
  unfold gTup at p
  cases hs : seqOf η y with
  | none => simp only [hs] at p; exact p.elim
  | some xs =>
    simp only [hs] at p
    obtain ⟨a, vs, rfl, hq, R1⟩ := seqOf_rel S R hs
    have len : xs.length = es.length := by
      have := gEach_len p
      omega
    have lv : vs.length = es.length := by rw [← R1.1]; exact len
    rcases hq with hq | hq
    · exact (pg_lst O.calm h (n := es.length) (noStar_len hn) (noStar_find hn)).run pins s σ H _ u Q I r ⟨a, vs, rfl, by rw [O.K]; exact hq, lv, φ, η, ρ, xs, S, E, R1, p⟩
    · exact (pg_tup O.calm h (n := es.length) (noStar_len hn) (noStar_find hn)).run pins s σ H _ u Q I r ⟨a, vs, rfl, by rw [O.K]; exact hq.t, lv, φ, η, ρ, xs, S, E, R1, p⟩
/-- a pair that a walk made -/
def RP (G : Gd) : List Addr → Hp → Vl → V → Prop := fun φ H x v => ∃ y z a v1 v2, x = .tup [y, z] ∧ v = .ref a ∧ SqT G.K H a [v1, v2] ∧ RV G.K φ H y v1 ∧ RV G.K φ H z v2
theorem g_pair (O : XOk X G) {e1 e2 : Expr} {gs : List EvG} {k : Nat} {pos : Pos} {L : List Nat} (hn : NoStar [e1, e2]) (h : SGs X G L [e1, e2] gs) : SGi X G (RP G) L (.Tuple [e1, e2] k pos) (gTup gs) := by
  refine ⟨fun pins s σ H v u Q I r ⟨φ, η, ρ, x, S, E, ⟨y, z, a, v1, v2, ex, ev, hq, r1, r2⟩, p⟩ => ?_⟩
  subst ex; subst ev
  exact (pg_tup O.calm h (n := 2) (noStar_len hn) (noStar_find hn)).run pins s σ H _ u Q I r ⟨a, [v1, v2], rfl, by rw [O.K]; exact hq, rfl, φ, η, ρ, [y, z], S, E, RVs.cons r1 (RVs.cons r2 RVs.nil), p⟩
/-- the evaluation of a part of a target: no exception comes of it -/
theorem postN {α β : Type} {R : List Addr → Hp → α → β → Prop} {W : Value → Option Addr → Hp → Prop} {n : Nat} {φ : List Addr} {H : Hp} {x : Rs α} {k : α → He → Rs Env} {Q : L2.St → Hp → Prop} (p : PostG G n φ H (x.bindN k) Q) :
    Post G R W φ H x fun b H1 => ∃ φ1 η1 a, Evo φ H φ1 H1 ∧ Sim G φ1 η1 H1 ∧ R φ1 H1 a b ∧ PostG G n φ1 H1 (k a η1) Q := by
  cases x with
  | ok a η => exact fun φ1 H1 b e S r => ⟨φ1, η, a, e, S, r, PostG.from e p⟩
  | ex _ _ _ => exact p.elim
  | bad _ => exact p.elim

theorem fput_put {φ : List Addr} {H : Hp} {C : Addr} {f : Nat} {nm : Str} {x : Vl} {v : V} (hf : G.attrs[f]? = some nm) (hn : NoAttr G.K C nm) (rx : RV G.K φ H x v) : ∀ {fs : List (Nat × Vl)} {ws : List (Str × V)}, RFs G φ H C fs ws → RFs G φ H C (fput f x fs) (putF nm v ws)
  | [], [], R => ⟨rfl, fun i p q h1 h2 => by
    cases i with
    | zero =>
      have e1 : (f, x) = p := by simpa [fput] using h1
      have e2 : (nm, v) = q := by simpa [putF] using h2
      subst e1; subst e2; exact ⟨hf, hn, rx⟩
    | succ i => simp [fput] at h1⟩
  | [], _ :: _, R => by have := R.1; simp at this
  | _ :: _, [], R => by have := R.1; simp at this
  | (g, y) :: fs, (m, w) :: ws, R => by
    obtain ⟨h1, h2, h3⟩ := R.2 0 _ _ rfl rfl
    have tl : RFs G φ H C fs ws := ⟨by simpa using R.1, fun i p q a b => R.2 (i + 1) p q (by simpa using a) (by simpa using b)⟩
    have hd : ∀ {q : Str × V} {p : Nat × Vl} {fs' : List (Nat × Vl)} {ws' : List (Str × V)}, (G.attrs[p.1]? = some q.1 ∧ NoAttr G.K C q.1 ∧ RV G.K φ H p.2 q.2) → RFs G φ H C fs' ws' → RFs G φ H C (p :: fs') (q :: ws') := fun {q p fs' ws'} hh tt => ⟨by simp [tt.1], fun i p' q' a b => by
      cases i with
      | zero => simp at a b; subst a; subst b; exact hh
      | succ i => exact tt.2 i p' q' (by simpa using a) (by simpa using b)⟩
    show RFs G φ H C (match Nat.beq g f with | true => (f, x) :: fs | false => (g, y) :: fput f x fs) (if m = nm then (m, v) :: ws else (m, w) :: putF nm v ws)
    cases hb : Nat.beq g f with
    | true =>
      have e := Nat.eq_of_beq_eq_true hb
      subst e
      have h1' : G.attrs[g]? = some m := h1
      have em : m = nm := by rw [h1'] at hf; exact Option.some.inj hf
      rw [if_pos em]
      exact hd ⟨h1, h2, rx⟩ tl
    | false =>
      have e : g ≠ f := fun z => by subst z; rw [show Nat.beq g g = true from Nat.beq_refl g] at hb; cases hb
      have em : m ≠ nm := fun z => by
        have h1' : G.attrs[g]? = some m := h1
        rw [z] at h1'
        exact e ((List.getElem?_inj (List.getElem?_eq_some_iff.mp h1').1 G.attrs_nd).mp (h1'.trans hf.symm))
      rw [if_neg em]
      exact hd ⟨h1, h2, h3⟩ (fput_put hf hn rx tl)
theorem fget_lookup {φ : List Addr} {H : Hp} {C : Addr} {f : Nat} {nm : Str} {x : Vl} (hf : G.attrs[f]? = some nm) : ∀ {fs : List (Nat × Vl)} {ws : List (Str × V)}, RFs G φ H C fs ws → fget f fs = some x → ∃ v, ws.lookup nm = some v ∧ NoAttr G.K C nm ∧ RV G.K φ H x v
  | [], _, _, h => nomatch h
  | _ :: _, [], R, _ => by have := R.1; simp at this
  | (g, y) :: fs, (m, w) :: ws, R, h => by
    obtain ⟨h1, h2, h3⟩ := R.2 0 _ _ rfl rfl
    have tl : RFs G φ H C fs ws := ⟨by simpa using R.1, fun i p q a b => R.2 (i + 1) p q (by simpa using a) (by simpa using b)⟩
    have h1' : G.attrs[g]? = some m := h1
    have h' : (match Nat.beq g f with | true => some y | false => fget f fs) = some x := h
    cases hb : Nat.beq g f with
    | true =>
      rw [hb] at h'
      cases h'
      have e := Nat.eq_of_beq_eq_true hb
      subst e
      rw [h1'] at hf; cases hf
      exact ⟨w, by rw [List.lookup_cons]; simp, h2, h3⟩
    | false =>
      rw [hb] at h'
      have e : g ≠ f := fun z => by subst z; rw [show Nat.beq g g = true from Nat.beq_refl g] at hb; cases hb
      have em : (nm == m) = false := beq_eq_false_iff_ne.mpr fun z => by
        subst z
        exact e ((List.getElem?_inj (List.getElem?_eq_some_iff.mp h1').1 G.attrs_nd).mp (h1'.trans hf.symm))
      obtain ⟨v, q1, q2⟩ := fget_lookup hf tl h'
      exact ⟨v, by rw [List.lookup_cons, em]; exact q1, q2⟩
theorem insAt {φ : List Addr} {η : He} {H : Hp} {q : Nat} {a : Addr} {c : Nat} {fs : List (Nat × Vl)} (S : Sim G φ η H) (hn : φ[q]? = some a) (h : η.get q = some (.ins c fs)) : ∃ C dx ws, G.clss[c]? = some C ∧ H a = some (.ins C dx ws) ∧ RFs G φ H C fs ws := by
  obtain ⟨o, ho, r⟩ := S.ob q a hn
  rw [h] at ho; cases ho
  exact r
theorem s_attr (O : XOk X G) {e : Expr} {f : EvE} {nm : Str} {k : Nat} {pos : Pos} (hf : G.attrs[k]? = some nm) (hb : plainBase e = true) (h : SE X G e f) : SE X G (.Attribute e nm pos) (eAttr f k) := fun W tk => by
  refine peWeak (pe_fld (h W tk) (base_of hb)) fun σ H Q q => ?_
  refine (rd_bind (R := RVl G) (k := fun ov _ h => match insOf h ov with | some (.ins _ fs) => (match fget k fs with | some v => .ok v h | none => .bad 240) | _ => .bad 241) q).imp ?_
  rintro v H1 ⟨φ1, η1, r1, x, S1, E1, R1, p1⟩
  cases R1 with
  | @loc m a hn =>
    have p1 : Post G (RVl G) (fun c d H' => W c d σ H') φ1 H1 (match η1.get m with | some (.ins _ fs) => (match fget k fs with | some v => .ok v η1 | none => .bad 240) | _ => .bad 241) Q := p1
    cases hg : η1.get m with
    | none => simp only [hg] at p1; exact p1.elim
    | some o =>
      cases o with
      | lst _ => simp only [hg] at p1; exact p1.elim
      | dic _ _ => simp only [hg] at p1; exact p1.elim
      | ins c fs =>
        simp only [hg] at p1
        obtain ⟨C, dx, ws, hc, hH, R⟩ := insAt S1 hn hg
        cases hx : fget k fs with
        | none => simp only [hx] at p1; exact p1.elim
        | some y =>
          simp only [hx] at p1
          obtain ⟨v, l1, l2, l3⟩ := fget_lookup hf R hx
          exact ⟨a, C, dx, ws, v, rfl, hH, by rw [O.K]; exact G.cls_ok c C hc, by rw [O.K]; exact l2, l1, post_ok p1 S1 l3⟩
  | _ => exact p1.elim
theorem g_attr (O : XOk X G) {W0 : WX} (tk0 : Takes X W0) {fo : Nat → Nat → Bool} (hfo : ∀ c C f nm, fo c f = true → G.clss[c]? = some C → G.attrs[f]? = some nm → NoAttr G.K C nm) {e : Expr} {f : EvE} {nm : Str} {k : Nat} {pos : Pos} {L : List Nat} (hf : G.attrs[k]? = some nm) (h : SE X G e f) : SG X G L (.Attribute e nm pos) (gAttr fo f k) := by
  refine pgWeak (FPX.pg_fld (h W0 tk0)) fun v σ H Q ⟨φ, η, r, y, S, E, R, p⟩ => ?_
  refine ⟨φ, η, r, S, E, (postN (R := RVl G) p).imp ?_⟩
  rintro x H1 ⟨φ1, η1, z, ev, S1, R1, p1⟩
  cases R1 with
  | @loc m a hn =>
    simp only at p1
    cases hg : η1.get m with
    | none => simp only [hg] at p1; exact p1.elim
    | some o =>
      cases o with
      | lst _ => simp only [hg] at p1; exact p1.elim
      | dic _ _ => simp only [hg] at p1; exact p1.elim
      | ins c fs =>
        simp only [hg] at p1
        cases h1 : fo c k with
        | false => simp only [h1] at p1; exact p1.elim
        | true =>
          simp only [h1] at p1
          cases h2 : Nat.ble fs.length 100 with
          | false => simp only [h2] at p1; exact p1.elim
          | true =>
            simp only [h2] at p1
            obtain ⟨C, dx, ws, hc, hH, RF⟩ := insAt S1 hn hg
            have na := hfo c C k nm h1 hc hf
            have ry := R.evo ev S.trk
            have l := Nat.le_of_ble_eq_true h2
            have ev2 : Evo φ1 H1 φ1 (upd H1 a (.ins C dx (putF nm v ws))) := Evo.set (mem_at hn) hH trivial
            refine ⟨a, C, dx, ws, rfl, hH, by rw [O.K]; exact G.cls_ok c C hc, by rw [O.K]; exact na, by rw [← RF.1]; omega, ?_⟩
            refine p1 φ1 _ σ ev2 (S1.set hn hg ⟨C, dx, putF nm v ws, hc, upd_same, ?_⟩) ((E.evo ev S.trk).evo ev2 S1.trk) rfl
            exact (fput_put hf na ry RF).evo ev2 S1.trk
  | _ => exact p1.elim

def PostS (G : Gd) (n : Nat) (W : WX) (φ : List Addr) (H : Hp) (x : Rst) (D : Ends) : Prop := match x with
  | .ok f η' => match f with
    | .nx r' => ∀ φ' H' σ', Evo φ H φ' H' → Sim G φ' η' H' → EnvR G n φ' H' r' σ' → D.nx σ' H'
    | .rt v => ∀ φ' H' w, Evo φ H φ' H' → Sim G φ' η' H' → RV G.K φ' H' v w → D.rt w H'
    | .bk r' => ∀ φ' H' σ', Evo φ H φ' H' → Sim G φ' η' H' → EnvR G n φ' H' r' σ' → D.bk σ' H'
    | .ct r' => ∀ φ' H' σ', Evo φ H φ' H' → Sim G φ' η' H' → EnvR G n φ' H' r' σ' → D.ct σ' H'
  | .ex c as r' η' => ∀ φ' H' σ' cls d, Evo φ H φ' H' → Sim G φ' η' H' → EnvR G n φ' H' r' σ' → ExR G φ' H' c as cls d → W cls d σ' H'
  | .bad _ => False
def rs (G : Gd) (n : Nat) (W : WX) (f : EvS) : TS := fun D σ H => ∃ φ η r, Sim G φ η H ∧ EnvR G n φ H r σ ∧ PostS G n W φ H (f r η) D
def SS (X : Cx) (G : Gd) (st : Stmt) (f : EvS) : Prop := ∀ W, Takes X W → PS X st (rs G X.N.length W f)
def SSs (X : Cx) (G : Gd) (sts : List Stmt) (f : EvS) : Prop := ∀ W, Takes X W → PSs X sts (rs G X.N.length W f)
theorem psWeak {st : Stmt} {t t' : TS} (h : PS X st t) (i : ∀ D σ H, t' D σ H → t D σ H) : PS X st t' := ⟨fun pins s σ H D I q => h.run pins s σ H D I (i D σ H q)⟩
theorem pssWeak {st : List Stmt} {t t' : TS} (h : PSs X st t) (i : ∀ D σ H, t' D σ H → t D σ H) : PSs X st t' := ⟨fun pins s σ H D I q => h.run pins s σ H D I (i D σ H q)⟩
theorem PostS.from {n : Nat} {W : WX} {φ φ1 : List Addr} {H H1 : Hp} {x : Rst} {D : Ends} (e : Evo φ H φ1 H1) (h : PostS G n W φ H x D) : PostS G n W φ1 H1 x D := by
  cases x with
  | ok f η' => cases f with
    | nx r' => exact fun φ' H' σ' e2 => h φ' H' σ' (e.trans e2)
    | rt v => exact fun φ' H' σ' e2 => h φ' H' σ' (e.trans e2)
    | bk r' => exact fun φ' H' σ' e2 => h φ' H' σ' (e.trans e2)
    | ct r' => exact fun φ' H' σ' e2 => h φ' H' σ' (e.trans e2)
  | ex c as r' η' => exact fun φ' H' σ' cls d e2 => h φ' H' σ' cls d (e.trans e2)
  | bad _ => exact h
/-- an expression, then what goes on -/
theorem rs_toS {α β : Type} {R : List Addr → Hp → α → β → Prop} {n : Nat} {W : WX} {f : Env → He → Rs α} {k : α → Env → He → Rst} {D : Ends} {σ : L2.St} {H : Hp} (h : rs G n W (fun r h => (f r h).toS r fun x h => k x r h) D σ H) :
    rd G n R W f σ H fun v H1 => ∃ φ η r x, Sim G φ η H1 ∧ EnvR G n φ H1 r σ ∧ R φ H1 x v ∧ PostS G n W φ H1 (k x r η) D := by
  obtain ⟨φ, η, r, S, E, p⟩ := h
  refine ⟨φ, η, r, S, E, ?_⟩
  have p : PostS G n W φ H ((f r η).toS r fun x h => k x r h) D := p
  cases hf : f r η with
  | bad m => rw [hf] at p; exact p
  | ex c v η' => rw [hf] at p; exact fun φ' H' cls d e S' x => p φ' H' σ cls d e S' (E.evo e S.trk) x
  | ok x η' => rw [hf] at p; exact fun φ' H' b e S' rr => ⟨φ', η', r, x, S', E.evo e S.trk, rr, PostS.from e p⟩
theorem ss_nil : SSs X G [] (sSeq []) := fun W tk => pssWeak pss_nil fun D σ H ⟨φ, η, r, S, E, p⟩ => p φ H σ Evo.refl S E
theorem sSeq_cons {s : EvS} {ss : List EvS} : sSeq (s :: ss) = fun r h => (s r h).nxt fun r h => sSeq ss r h := rfl
theorem rs_nxt {n : Nat} {W : WX} {f : EvS} {k : EvS} {D : Ends} {σ : L2.St} {H : Hp} (h : rs G n W (fun r h => (f r h).nxt fun r h => k r h) D σ H) : rs G n W f { D with nx := rs G n W k D } σ H := by
  obtain ⟨φ, η, r, S, E, p⟩ := h
  refine ⟨φ, η, r, S, E, ?_⟩
  have p : PostS G n W φ H ((f r η).nxt fun r h => k r h) D := p
  cases hf : f r η with
  | bad m => rw [hf] at p; exact p
  | ex c v r' η' => rw [hf] at p; exact p
  | ok fl η' =>
    rw [hf] at p
    cases fl with
    | nx r' => exact fun φ' H' σ' e S' E' => ⟨φ', η', r', S', E', PostS.from e p⟩
    | rt v => exact p
    | bk r' => exact p
    | ct r' => exact p
theorem ss_cons {st : Stmt} {sts : List Stmt} {f : EvS} {fs : List EvS} (h : SS X G st f) (t : SSs X G sts (sSeq fs)) : SSs X G (st :: sts) (sSeq (f :: fs)) := fun W tk =>
  pssWeak (pss_cons (h W tk) (t W tk)) fun D σ H q => rs_nxt q
/-- no comprehension: nothing is kept back -/
def plainVal : Expr → Bool
  | .ListComp _ _ _ _ => false
  | .SetComp _ _ _ _ => false
  | .DictComp _ _ _ _ _ => false
  | _ => true
theorem swaps_of {e : Expr} {t : Option Expr} {l : Nat} {env : PySem.Env} (h : plainVal e = true) : swapsWith e t l env = pure false := by
  cases e <;> first | rfl | cases h
theorem swaps_tg {e t : Expr} {l : Nat} {env : PySem.Env} (h : ∀ x p, t ≠ .Name x p) : swapsWith e (some t) l env = pure false := by
  unfold swapsWith
  split
  · cases t <;> first | rfl | exact absurd rfl (h _ _)
  · rfl
theorem s_asg (O : XOk X G) {tg e : Expr} {g : EvG} {f : EvE} {pos : Pos} {L : List Nat} (hg : SG X G L tg g) (he : SE X G e f) (hn : ∀ v p, tg ≠ .Starred v p) (hs : plainVal e = true ∨ ∀ x p, tg ≠ .Name x p) (hw : swappedStores [tg] e X.env = pure none) : SS X G (.Assign [tg] e pos) (sAsg g f) := fun W tk => by
  have hsw : swapsWithSole [tg] e pos.line X.env = pure false := by
    rcases hs with hs | hs
    · exact swaps_of hs
    · exact swaps_tg hs
  refine psWeak (ps_asg (he W tk) hg hsw hw (by rw [starEach_assign hn]; rfl)) fun D σ H q => ?_
  refine (rs_toS (R := RVl G) (k := fun v r h => (g v r h).toN fun r h => .ok (.nx r) h) q).imp ?_
  rintro v H1 ⟨φ1, η1, r1, x, S1, E1, R1, p1⟩
  refine ⟨φ1, η1, r1, x, S1, E1, R1, ?_⟩
  cases hx : g x r1 η1 with
  | ok r' η' => rw [hx] at p1; exact fun φ' H' σ' e S' E' _ => p1 φ' H' σ' e S' E'
  | ex _ _ _ => rw [hx] at p1; exact p1
  | bad _ => rw [hx] at p1; exact p1
theorem s_ex {e : Expr} {f : EvE} {pos : Pos} (he : SE X G e f) (hs : plainVal e = true) : SS X G (.Expr e pos) (sEx f) := fun W tk =>
  psWeak (ps_expr (he W tk) (swaps_of hs)) fun D σ H q => (rs_toS (R := RVl G) (k := fun _ r h => .ok (.nx r) h) q).imp fun v H1 ⟨φ1, η1, r1, x, S1, E1, R1, p1⟩ => p1 φ1 H1 σ Evo.refl S1 E1
theorem s_ret {e : Expr} {f : EvE} {pos : Pos} (he : SE X G e f) : SS X G (.Return (some e) pos) (sRet f) := fun W tk =>
  psWeak (ps_ret (he W tk)) fun D σ H q => (rs_toS (R := RVl G) (k := fun v _ h => .ok (.rt v) h) q).imp fun v H1 ⟨φ1, η1, r1, x, S1, E1, R1, p1⟩ => p1 φ1 H1 v Evo.refl S1 R1
theorem s_retN {pos : Pos} : SS X G (.Return none pos) sRetN := fun W tk =>
  psWeak ps_retN fun D σ H ⟨φ, η, r, S, E, p⟩ => p φ H .non Evo.refl S .non
theorem s_pass {pos : Pos} : SS X G (.Pass pos) sPass := fun W tk => psWeak ps_pass fun D σ H ⟨φ, η, r, S, E, p⟩ => p φ H σ Evo.refl S E
theorem s_brk {pos : Pos} : SS X G (.Break pos) sBrk := fun W tk => psWeak ps_break fun D σ H ⟨φ, η, r, S, E, p⟩ => p φ H σ Evo.refl S E
theorem s_cnt {pos : Pos} : SS X G (.Continue pos) sCnt := fun W tk => psWeak ps_continue fun D σ H ⟨φ, η, r, S, E, p⟩ => p φ H σ Evo.refl S E
theorem s_if {c : Expr} {a b : List Stmt} {t : EvT} {f g : EvS} {pos : Pos} (hc : ST X G c t) (ha : SSs X G a f) (hb : SSs X G b g) : SS X G (.If c a b pos) (sIf t f g) := fun W tk => by
  refine psWeak (ps_if (hc W tk) (ha W tk) (hb W tk)) fun D σ H q => ?_
  refine (rs_toS (R := RBl) (k := fun c r h => match c with | true => f r h | false => g r h) q).imp ?_
  rintro v H1 ⟨φ1, η1, r1, x, S1, E1, R1, p1⟩
  subst R1
  cases x with
  | true => exact ⟨φ1, η1, r1, S1, E1, p1⟩
  | false => exact ⟨φ1, η1, r1, S1, E1, p1⟩
/-- the body of a loop, then the next turn -/
theorem rs_loop {n : Nat} {W : WX} {f k : EvS} {D : Ends} {φ : List Addr} {η : He} {r : Env} {σ : L2.St} {H : Hp} (S : Sim G φ η H) (E : EnvR G n φ H r σ) (p : PostS G n W φ H ((f r η).loop fun r h => k r h) D) :
    rs G n W f { D with nx := rs G n W k D, ct := rs G n W k D, bk := D.nx } σ H := by
  refine ⟨φ, η, r, S, E, ?_⟩
  cases hf : f r η with
  | bad m => rw [hf] at p; exact p
  | ex c v r' η' => rw [hf] at p; exact p
  | ok fl η' =>
    rw [hf] at p
    cases fl with
    | nx r' => exact fun φ' H' σ' e S' E' => ⟨φ', η', r', S', E', PostS.from e p⟩
    | ct r' => exact fun φ' H' σ' e S' E' => ⟨φ', η', r', S', E', PostS.from e p⟩
    | rt v => exact p
    | bk r' => exact p
theorem s_whl (hp : PassesOwn (model X.prog X.w) X.A X.env X.xe) {c : Expr} {b : List Stmt} {t : EvT} {f : EvS} {pos : Pos} (hc : ST X G c t) (hb : SSs X G b f) : SS X G (.While c b [] pos) (sWhl t f) := fun W tk => by
  refine psWeak (ps_while hp (hc W tk) (hb W tk)) fun D σ H q => ?_
  refine ⟨fun m σ H => rs G X.N.length W (whl t f m) D σ H, ⟨100000, q⟩, fun m σ H q => ?_⟩
  cases m with
  | zero => obtain ⟨φ, η, r, S, E, p⟩ := q; exact p.elim
  | succ m =>
    refine (rs_toS (R := RBl) (k := fun c r h => match c with | true => (f r h).loop fun r h => whl t f m r h | false => .ok (.nx r) h) q).imp ?_
    rintro v H1 ⟨φ1, η1, r1, x, S1, E1, R1, p1⟩
    subst R1
    cases x with
    | true => exact ⟨rs G X.N.length W (whl t f m) D, fun σ' H' q => ⟨m, Nat.lt_succ_self m, q⟩, rs_loop S1 E1 p1⟩
    | false => exact p1 φ1 H1 σ Evo.refl S1 E1
end
end FP
end
section
namespace FP
open PySem PySem.Spec PyProof.Rows L2 PySem.SeqAt

section
variable {X : Cx} {G : Gd}
/-- a walk of the layer beside a cursor -/
structure Walk0 (G : Gd) (IR : List Addr → Hp → Vl → V → Prop) (J : It) (C : Nat → List Addr → Hp → Cu → Prop) : Prop where
  evo : ∀ i φ H φ' H' c, C i φ H c → Trk φ H → Evo φ H φ' H' → C i φ' H' c
  stop : ∀ i φ η H c, C i φ H c → Sim G φ η H → next η c = .stop → J.stop i H
  item : ∀ i φ η H c v c', C i φ H c → Sim G φ η H → next η c = .item v c' → J.go i H ∧ ∀ x H', J.yld i H x H' → Evo φ H φ H' ∧ Sim G φ η H' ∧ IR φ H' v x ∧ C (i + 1) φ H' c'
/-- .. which a list made meanwhile, at D, does not touch -/
structure Away (D : Addr) (C : Nat → List Addr → Hp → Cu → Prop) : Prop where
  mv : ∀ i φ H c o u, C i φ H c → D ∉ φ → H D = some o → NTup o → C i φ (upd H D u) c
structure Walk (G : Gd) (IR : List Addr → Hp → Vl → V → Prop) (J : It) (C : Nat → List Addr → Hp → Cu → Prop) : Prop extends Walk0 G IR J C where
  away : ∀ D, ∃ C', Walk0 G IR J C' ∧ Away D C' ∧ ∀ φ H c, C 0 φ H c → H D = none → C' 0 φ H c
/-- the dict that a walk locked: it was not so at the entry -/
def NF (X : Cx) (a : Addr) : Prop := ∀ o u, X.H_0 a ≠ some (.frz o u)
/-- H: before the walk -/
def LkF (X : Cx) (o : Option Nat) (φ : List Addr) (H : Hp) : Prop := match o with
  | none => True
  | some q => ∃ a, φ[q]? = some a ∧ NF X a ∧ ∀ b u, H a ≠ some (.frz b u)
theorem LkF.back {X : Cx} {o : Option Nat} {φ φ1 φ' : List Addr} {H H1 : Hp} (l : LkF X o φ' H1) (e : Evo φ H φ1 H1) : LkF X o φ' H := by
  cases o with
  | none => trivial
  | some q => obtain ⟨a, h, n, f⟩ := l; exact ⟨a, h, n, fun b u z => f b u (e.frz a b u z)⟩
def PostI (X : Cx) (G : Gd) (IR : List Addr → Hp → Vl → V → Prop) (W : Value → Option Addr → Hp → Prop) (φ : List Addr) (H : Hp) (x : Rs (Cu × Option Nat)) (R : It → Hp → Prop) : Prop := match x with
  | .ok p η' => ∀ φ' H' J C, Evo φ H φ' H' → Sim G φ' η' H' → Walk G IR J C → C 0 φ' H' p.1 → LkF X p.2 φ' H → R J H'
  | .ex c as η' => ∀ φ' H' cls d, Evo φ H φ' H' → Sim G φ' η' H' → ExR G φ' H' c as cls d → W cls d H'
  | .bad _ => False
def ri (X : Cx) (G : Gd) (IR : List Addr → Hp → Vl → V → Prop) (n : Nat) (W : WX) (i : EvI) : TI := fun σ H R => ∃ φ η r, Sim G φ η H ∧ EnvR G n φ H r σ ∧ PostI X G IR (fun c d H' => W c d σ H') φ H (i r η) R
def SI (X : Cx) (G : Gd) (IR : List Addr → Hp → Vl → V → Prop) (tg iter : Expr) (i : EvI) : Prop := ∀ W, Takes X W → PI X tg iter (ri X G IR X.N.length W i)
theorem piWeak {tg e : Expr} {t t' : TI} (h : PI X tg e t) (i : ∀ σ H Q, t' σ H Q → t σ H Q) : PI X tg e t' := ⟨fun pins s σ H R I q => h.run pins s σ H R I (i σ H R q)⟩
/-- an expression, then the cursor -/
theorem ri_bind {α β : Type} {R : List Addr → Hp → α → β → Prop} {IR : List Addr → Hp → Vl → V → Prop} {n : Nat} {W : WX} {f : Env → He → Rs α} {k : α → Env → He → Rs (Cu × Option Nat)} {σ : L2.St} {H : Hp} {Q : It → Hp → Prop} (h : ri X G IR n W (fun r h => (f r h).bind fun x h => k x r h) σ H Q) :
    rd G n R W f σ H fun v H1 => ∃ φ η r x, Sim G φ η H1 ∧ EnvR G n φ H1 r σ ∧ R φ H1 x v ∧ PostI X G IR (fun c d H' => W c d σ H') φ H1 (k x r η) Q := by
  obtain ⟨φ, η, r, S, E, p⟩ := h
  refine ⟨φ, η, r, S, E, ?_⟩
  have p : PostI X G IR (fun c d H' => W c d σ H') φ H ((f r η).bind fun x h => k x r h) Q := p
  cases hf : f r η with
  | bad m => rw [hf] at p; exact p
  | ex c v η' => rw [hf] at p; exact p
  | ok x η' =>
    rw [hf] at p
    have p : PostI X G IR (fun c d H' => W c d σ H') φ H (k x r η') Q := p
    intro φ' H' b e S' rr
    refine ⟨φ', η', r, x, S', E.evo e S.trk, rr, ?_⟩
    cases hk : k x r η' with
    | bad m => rw [hk] at p; exact p
    | ex c v η2 => rw [hk] at p; exact fun φ2 H2 cls d e2 => p φ2 H2 cls d (e.trans e2)
    | ok y η2 => rw [hk] at p; exact fun φ2 H2 J C e2 S2 w c l => p φ2 H2 J C (e.trans e2) S2 w c (l.back e)
theorem pi_bind {α β : Type} {R : List Addr → Hp → α → β → Prop} {IR : List Addr → Hp → Vl → V → Prop} {n : Nat} {W : WX} {φ : List Addr} {η : He} {H : Hp} {r : Env} {fa : Env → He → Rs α} {k : α → He → Rs (Cu × Option Nat)} {σ : L2.St} {Q : It → Hp → Prop}
    (S : Sim G φ η H) (E : EnvR G n φ H r σ) (p : PostI X G IR (fun c d H' => W c d σ H') φ H ((fa r η).bind k) Q) :
    rd G n R W fa σ H fun v H1 => ∃ φ1 η1 x, Evo φ H φ1 H1 ∧ Sim G φ1 η1 H1 ∧ EnvR G n φ1 H1 r σ ∧ R φ1 H1 x v ∧ PostI X G IR (fun c d H' => W c d σ H') φ1 H1 (k x η1) Q := by
  refine ⟨φ, η, r, S, E, ?_⟩
  cases hf : fa r η with
  | bad m => rw [hf] at p; exact p
  | ex c v η' => rw [hf] at p; exact p
  | ok x η' =>
    rw [hf] at p
    have p : PostI X G IR (fun c d H' => W c d σ H') φ H (k x η') Q := p
    intro φ' H' b e S' rr
    refine ⟨φ', η', x, e, S', E.evo e S.trk, rr, ?_⟩
    cases hk : k x η' with
    | bad m => rw [hk] at p; exact p
    | ex c v η2 => rw [hk] at p; exact fun φ2 H2 cls d e2 => p φ2 H2 cls d (e.trans e2)
    | ok y η2 => rw [hk] at p; exact fun φ2 H2 J C e2 S2 w c l => p φ2 H2 J C (e.trans e2) S2 w c (l.back e)

inductive Src (G : Gd) (F : Addr → Prop) (φ : List Addr) (H : Hp) : Bool → Addr → Nat → Cu → Prop where
  | tup {a : Addr} {xs : List Vl} {vs : List V} {i : Nat} (h : SqD G.K H a vs) (R : RVs G.K φ H xs vs) : Src G F φ H true a i (.vals (xs.drop i))
  | fl {a : Addr} {xs : List Vl} {vs : List V} {i : Nat} (h : SqF G.K H a vs) (R : RVs G.K φ H xs vs) : Src G F φ H false a i (.vals (xs.drop i))
  | new {a : Addr} {xs : List Vl} {vs : List V} {i : Nat} (h : H a = some (.lst vs)) (n : a ∉ φ) (f : ¬ F a) (R : RVs G.K φ H xs vs) : Src G F φ H false a i (.vals (xs.drop i))
  | loc {a : Addr} {q i : Nat} (h : φ[q]? = some a) : Src G F φ H false a i (.lst q i)
def SqB (K : PySem.W.Frag) (H : Hp) (b : Bool) (a : Addr) (vs : List V) : Prop := match b with
  | true => SqT K H a vs
  | false => SqL K H a vs
theorem Src.evo {F : Addr → Prop} {φ φ' : List Addr} {H H' : Hp} {b : Bool} {a : Addr} {i : Nat} {c : Cu} (h : Src G F φ H b a i c) (t : Trk φ H) (e : Evo φ H φ' H') : Src G F φ' H' b a i c := by
  cases h with
  | tup h R => exact .tup (h.evo e t) (R.evo e t)
  | fl h R => exact .fl (h.evo e t) (R.evo e t)
  | new h n f R => exact .new (e.old _ _ h n) (fun m => by have := e.new _ m n; rw [h] at this; cases this) f (R.evo e t)
  | loc h => exact .loc (e.at h)
/-- a thing is changed that nothing of ours looks at -/
theorem Kept.one {H : Hp} {a : Addr} {o u : HO} (h : H a = some o) (n : NTup o) : Kept H (L2.upd H a u) := fun b v e m => by
  rw [upd_ne]
  · exact e
  · rintro rfl
    rw [h] at e
    cases e
    exact m n
theorem RVs.mut {K : PySem.W.Frag} {φ : List Addr} {H : Hp} {D : Addr} {o u : HO} {zs : List Vl} {vs : List V} (hD : H D = some o) (h : RVs K φ H zs vs) (nt : NTup o := by exact True.intro) : RVs K φ (L2.upd H D u) zs vs := h.kept (Kept.one hD nt)
theorem Sim.mut {φ : List Addr} {η : He} {H : Hp} {D : Addr} {o u : HO} (S : Sim G φ η H) (hn : D ∉ φ) (hD : H D = some o) (nt : NTup o := by exact True.intro) : Sim G φ η (L2.upd H D u) :=
  ⟨S.len, S.nd, fun i a e => let ⟨w, h1, h2⟩ := S.ob i a e; ⟨w, h1, h2.kept (Kept.one hD nt) (upd_ne (by rintro rfl; exact hn (mem_at e)))⟩⟩
theorem EnvR.mut {n : Nat} {φ : List Addr} {H : Hp} {r : Env} {σ : L2.St} {D : Addr} {o u : HO} (E : EnvR G n φ H r σ) (hD : H D = some o) (nt : NTup o := by exact True.intro) : EnvR G n φ (L2.upd H D u) r σ := E.kept (Kept.one hD nt)
theorem Src.mut {F : Addr → Prop} {φ : List Addr} {H : Hp} {b : Bool} {a D : Addr} {i : Nat} {c : Cu} {o u : HO} (hD : H D = some o) (hF : F D) (h : Src G F φ H b a i c) (nt : NTup o := by exact True.intro) : Src G F φ (L2.upd H D u) b a i c := by
  have kp : Kept H (L2.upd H D u) := Kept.one hD nt
  cases h with
  | tup h R => exact .tup (h.kept kp) (R.kept kp)
  | fl h R => exact .fl (h.kept kp) (R.kept kp)
  | new h n f R => exact .new (by rw [upd_ne (by rintro rfl; exact f hF)]; exact h) n f (R.kept kp)
  | loc h => exact .loc h
theorem Src.forb {φ : List Addr} {H : Hp} {b : Bool} {a D : Addr} {i : Nat} {c : Cu} (h : Src G (fun _ => False) φ H b a i c) (hD : H D = none) : Src G (· = D) φ H b a i c := by
  cases h with
  | tup h R => exact .tup h R
  | fl h R => exact .fl h R
  | new h n f R => exact .new h n (by rintro rfl; rw [hD] at h; cases h) R
  | loc h => exact .loc h
abbrev Src0 (G : Gd) := Src G (fun _ => False)
theorem vals_next {η : He} {xs : List Vl} {i : Nat} : next η (.vals (xs.drop i)) = match xs[i]? with | some x => .item x (.vals (xs.drop (i + 1))) | none => .stop := by
  by_cases h : i < xs.length
  · rw [List.drop_eq_getElem_cons h, List.getElem?_eq_getElem h]; rfl
  · rw [List.drop_of_length_le (by omega), List.getElem?_eq_none (by omega)]; rfl
/-- where the walk stands -/
theorem Src.next {F : Addr → Prop} {φ : List Addr} {η : He} {H : Hp} {b : Bool} {a : Addr} {i : Nat} {c : Cu} (h : Src G F φ H b a i c) (S : Sim G φ η H) :
    (∀ v c', FP.next η c = .item v c' → ∃ vs x, SqB G.K H b a vs ∧ vs[i]? = some x ∧ RV G.K φ H v x ∧ Src G F φ H b a (i + 1) c') ∧ (FP.next η c = .stop → ∃ vs, SqB G.K H b a vs ∧ vs.length ≤ i) := by
  have go : ∀ {xs : List Vl} {vs : List V}, RVs G.K φ H xs vs → SqB G.K H b a vs → (∀ j, Src G F φ H b a j (.vals (xs.drop j))) → (∀ v c', FP.next η (.vals (xs.drop i)) = .item v c' → ∃ vs x, SqB G.K H b a vs ∧ vs[i]? = some x ∧ RV G.K φ H v x ∧ Src G F φ H b a (i + 1) c') ∧ (FP.next η (.vals (xs.drop i)) = .stop → ∃ vs, SqB G.K H b a vs ∧ vs.length ≤ i) := fun {xs vs} R hq hs => by
    rw [vals_next]
    cases hx : xs[i]? with
    | none =>
      refine ⟨fun v c' e => (nomatch e), fun _ => ⟨vs, hq, ?_⟩⟩
      rw [List.getElem?_eq_none_iff] at hx
      rw [← R.1]; exact hx
    | some x =>
      obtain ⟨v, h1, h2⟩ := R.get hx
      refine ⟨fun w c' e => ?_, fun e => (nomatch e)⟩
      cases e
      exact ⟨vs, v, hq, h1, h2, hs (i + 1)⟩
  cases h with
  | tup h R => exact go R h.t fun j => .tup h R
  | fl h R => exact go R h.l fun j => .fl h R
  | new h n f R => exact go R (SqL.of h) fun j => .new h n f R
  | @loc _ q _ hn =>
    show (∀ v c', (match η.get q with | some (.lst xs) => (match nth xs i with | some x => Nx.item x (.lst q (Nat.succ i)) | none => .stop) | _ => .bad) = .item v c' → _) ∧ ((match η.get q with | some (.lst xs) => (match nth xs i with | some x => Nx.item x (.lst q (Nat.succ i)) | none => .stop) | _ => .bad) = .stop → _)
    cases hg : η.get q with
    | none => exact ⟨fun v c' e => (nomatch e), fun e => (nomatch e)⟩
    | some o =>
      cases o with
      | dic _ _ => exact ⟨fun v c' e => (nomatch e), fun e => (nomatch e)⟩
      | ins _ _ => exact ⟨fun v c' e => (nomatch e), fun e => (nomatch e)⟩
      | lst xs =>
        obtain ⟨vs, hH, R⟩ := locList S hn hg
        simp only [nth_eq]
        cases hx : xs[i]? with
        | none =>
          refine ⟨fun v c' e => (nomatch e), fun _ => ⟨vs, SqL.of hH, ?_⟩⟩
          rw [List.getElem?_eq_none_iff] at hx
          rw [← R.1]; exact hx
        | some x =>
          obtain ⟨v, h1, h2⟩ := R.get hx
          refine ⟨fun w c' e => ?_, fun e => (nomatch e)⟩
          cases e
          exact ⟨vs, v, SqL.of hH, h1, h2, .loc hn⟩
def ItB (K : PySem.W.Frag) (b : Bool) (a : Addr) : It := match b with
  | true => Itt K a
  | false => Itl K a
theorem walk_seq0 {F : Addr → Prop} {b : Bool} {a : Addr} : Walk0 G (RVl G) (ItB G.K b a) fun i φ H c => Src G F φ H b a i c where
  evo := fun i φ H φ' H' c h t e => h.evo t e
  stop := fun i φ η H c h S e => by
    obtain ⟨vs, h1, h2⟩ := (h.next S).2 e
    cases b with
    | true => exact ⟨vs, h1, h2⟩
    | false => exact ⟨vs, h1, h2⟩
  item := fun i φ η H c v c' h S e => by
    obtain ⟨vs, x, h1, h2, h3, h4⟩ := (h.next S).1 v c' e
    cases b with
    | true =>
      refine ⟨⟨vs, x, h1, h2⟩, fun y H' ⟨e1, e2⟩ => ?_⟩
      subst e1
      have := e2 vs h1
      rw [h2] at this; cases this
      exact ⟨Evo.refl, S, h3, h4⟩
    | false =>
      refine ⟨⟨vs, x, h1, h2⟩, fun y H' ⟨e1, e2⟩ => ?_⟩
      subst e1
      have := e2 vs h1
      rw [h2] at this; cases this
      exact ⟨Evo.refl, S, h3, h4⟩
theorem walk_seq {b : Bool} {a : Addr} : Walk G (RVl G) (ItB G.K b a) fun i φ H c => Src0 G φ H b a i c :=
  { walk_seq0 with away := fun D => ⟨fun i φ H c => Src G (· = D) φ H b a i c, walk_seq0, ⟨fun i φ H c o u h hn hD nt => h.mut hD rfl nt⟩, fun φ H c h hD => h.forb hD⟩ }
/-- pairs of a new tuple -/
theorem Src.upd {F : Addr → Prop} {φ : List Addr} {H : Hp} {b : Bool} {a : Addr} {i : Nat} {c : Cu} {p : Addr} {o : HO} (h : Src G F φ H b a i c) (t : Trk φ H) (hp : H p = none) : Src G F φ (L2.upd H p o) b a i c := h.evo t (Evo.upd hp)
def ItzB (K : PySem.W.Frag) (b : Bool) (a a' : Addr) : It := match b with
  | true => RZ.ItzT K a a'
  | false => Itz K a a'
theorem walk_zip0 {F : Addr → Prop} {b : Bool} {a a' : Addr} : Walk0 G (RP G) (ItzB G.K b a a') fun i φ H c => ∃ c1 c2, c = .zip c1 c2 ∧ Src G F φ H b a i c1 ∧ Src G F φ H b a' i c2 where
  evo := fun i φ H φ' H' c ⟨c1, c2, e, h1, h2⟩ t ev => ⟨c1, c2, e, h1.evo t ev, h2.evo t ev⟩
  stop := fun i φ η H c ⟨c1, c2, ec, h1, h2⟩ S e => by
    subst ec
    have e' : (match next η c1 with | .item v a => (match next η c2 with | .item w b => Nx.item (.tup [v, w]) (.zip a b) | .stop => .stop | .bad => .bad) | .stop => (match next η c2 with | .item _ _ => .stop | .stop => .stop | .bad => .bad) | .bad => .bad) = .stop := e
    have fin : ∀ {vs ws : List V}, SqB G.K H b a vs → SqB G.K H b a' ws → (vs.length ≤ i ∨ ws.length ≤ i) → (ItzB G.K b a a').stop i H := fun {vs ws} q1 q2 l => by
      cases b with
      | true => exact ⟨vs, ws, q1, q2, l⟩
      | false => exact ⟨vs, ws, q1, q2, l⟩
    cases hn1 : next η c1 with
    | bad => rw [hn1] at e'; cases e'
    | stop =>
      obtain ⟨vs, q1, l1⟩ := (h1.next S).2 hn1
      rw [hn1] at e'
      cases hn2 : next η c2 with
      | bad => simp only [hn2] at e'; cases e'
      | stop => obtain ⟨ws, q2, l2⟩ := (h2.next S).2 hn2; exact fin q1 q2 (.inr l2)
      | item w c2' => obtain ⟨ws, _, q2, _⟩ := (h2.next S).1 w c2' hn2; exact fin q1 q2 (.inl l1)
    | item v c1' =>
      rw [hn1] at e'
      obtain ⟨vs, x, q1, _⟩ := (h1.next S).1 v c1' hn1
      cases hn2 : next η c2 with
      | bad => simp only [hn2] at e'; cases e'
      | stop =>
        obtain ⟨ws, q2, l2⟩ := (h2.next S).2 hn2
        exact fin q1 q2 (.inr l2)
      | item w c2' => simp only [hn2] at e'; cases e'
  item := fun i φ η H c v c' ⟨c1, c2, ec, h1, h2⟩ S e => by
    subst ec
    have e' : (match next η c1 with | .item v a => (match next η c2 with | .item w b => Nx.item (.tup [v, w]) (.zip a b) | .stop => .stop | .bad => .bad) | .stop => (match next η c2 with | .item _ _ => .stop | .stop => .stop | .bad => .bad) | .bad => .bad) = .item v c' := e
    cases hn1 : next η c1 with
    | bad => rw [hn1] at e'; cases e'
    | stop => rw [hn1] at e'; cases hn2 : next η c2 <;> (simp only [hn2] at e'; cases e')
    | item x1 c1' =>
      simp only [hn1] at e'
      cases hn2 : next η c2 with
      | bad => simp only [hn2] at e'; cases e'
      | stop => simp only [hn2] at e'; cases e'
      | item x2 c2' =>
        simp only [hn2] at e'
        cases e'
        obtain ⟨vs, y1, q1, g1, r1, s1⟩ := (h1.next S).1 x1 c1' hn1
        obtain ⟨ws, y2, q2, g2, r2, s2⟩ := (h2.next S).1 x2 c2' hn2
        have key : ∀ {T : Addr} {H' : Hp}, H T = none → H' = upd H T (.tup [y1, y2]) → Evo φ H φ H' ∧ Sim G φ η H' ∧ RP G φ H' (.tup [x1, x2]) (.ref T) ∧ ∃ d1 d2, Cu.zip c1' c2' = .zip d1 d2 ∧ Src G F φ H' b a (i + 1) d1 ∧ Src G F φ H' b a' (i + 1) d2 := fun {T H'} hT eH => by
          subst eH
          exact ⟨Evo.upd hT, S.upd hT, ⟨x1, x2, T, y1, y2, rfl, rfl, SqT.of upd_same, r1.evo (Evo.upd hT) S.trk, r2.evo (Evo.upd hT) S.trk⟩, c1', c2', rfl, s1.upd S.trk hT, s2.upd S.trk hT⟩
        cases b with
        | true =>
          refine ⟨⟨vs, ws, y1, y2, q1, q2, g1, g2⟩, fun z H' ⟨T, x, y, ez, hT, eH, f1, f2⟩ => ?_⟩
          have a1 := f1 vs q1
          have a2 := f2 ws q2
          rw [g1] at a1; rw [g2] at a2; cases a1; cases a2
          subst ez
          exact key hT eH
        | false =>
          refine ⟨⟨vs, ws, y1, y2, q1, q2, g1, g2⟩, fun z H' ⟨T, x, y, ez, hT, eH, f1, f2⟩ => ?_⟩
          have a1 := f1 vs q1
          have a2 := f2 ws q2
          rw [g1] at a1; rw [g2] at a2; cases a1; cases a2
          subst ez
          exact key hT eH

theorem walk_zip {b : Bool} {a a' : Addr} : Walk G (RP G) (ItzB G.K b a a') fun i φ H c => ∃ c1 c2, c = .zip c1 c2 ∧ Src0 G φ H b a i c1 ∧ Src0 G φ H b a' i c2 :=
  { walk_zip0 with away := fun D => ⟨fun i φ H c => ∃ c1 c2, c = .zip c1 c2 ∧ Src G (· = D) φ H b a i c1 ∧ Src G (· = D) φ H b a' i c2, walk_zip0, ⟨fun i φ H c o u ⟨c1, c2, e, h1, h2⟩ hn hD nt => ⟨c1, c2, e, h1.mut hD rfl nt, h2.mut hD rfl nt⟩⟩, fun φ H c ⟨c1, c2, e, h1, h2⟩ hD => ⟨c1, c2, e, h1.forb hD, h2.forb hD⟩⟩ }
def IterV (X : Cx) (tg : Expr) (r : V → Hp → (It → Hp → Prop) → Prop) : Prop :=
  ∀ (pins : List (Addr × Obj)) (s : Shared) (σ : L2.St) (H : Hp) (x : V) (v : Value) (R : It → Hp → Prop), Inv X pins σ H s → RelV x v → r x H R → wpAny (model X.prog X.w) X.A (pyIter v) (PIE X pins σ tg R) X.xe s
theorem pi_of {tg e : Expr} {te : TE} {r : V → Hp → (It → Hp → Prop) → Prop} (h : IterV X tg r) (he : PE X e te) : PI X tg e (fun σ H R => te σ H fun x H1 => r x H1 R) :=
  ⟨fun pins s σ H R I q => thn (he.run pins s σ H _ I q) fun v s1 ⟨x, H1, I1, r1, q1⟩ => h pins s1 σ H1 x v R I1 r1 q1⟩
theorem iterV_seq {tg : Expr} : IterV X tg fun x H R => ∃ b a vs, x = .ref a ∧ SqB X.K H b a vs ∧ R (ItB X.K b a) H := by
  intro pins s σ H x v R I r ⟨b, a, vs, ex, hq, q⟩
  subst ex
  cases (show v = Value.ref a from r)
  have own : ∀ (o : Obj), ∀ c, c ∈ [s.heap.objs.size] → FpOk X pins H c := fun o c hc => by
    have e : c = s.heap.objs.size := by simpa using hc
    rw [e]; exact I.fpOk (Nat.le_refl _) (I.hok.fresh (Nat.le_refl _))
  have kp : ∀ (o : Obj), Inv X pins σ H { s with heap := s.heap.push o } := fun o => I.kept (t' := s.toks) fun b u e => Heap.get?_push_of_some _ e
  cases b with
  | true =>
    obtain ⟨its, rv, ht, hz⟩ := I.tuple (show SqT X.K H a vs from hq)
    exact wpAny_pyIter_tuple (show s.heap.IsTuple a its.toArray from ht) ⟨_, [s.heap.objs.size], _, _, H, rfl, kp _, turn_tuple a _, ⟨_, Heap.get?_push_size _ rfl, rfl, rfl⟩, own { cls := .none }, q⟩
  | false =>
    obtain ⟨its, rv, ht, hz⟩ := I.list (show SqL X.K H a vs from hq)
    exact wpAny_pyIter_list ht.isList ⟨_, [s.heap.objs.size], _, _, H, rfl, kp _, turn_list a _, ⟨_, Heap.get?_push_size _ rfl, rfl, rfl⟩, own { cls := .none }, q⟩
theorem iterV_str {tg : Expr} : IterV X tg fun x H R => ∃ z, x = .str z ∧ R (Its z) H := by
  intro pins s σ H x v R I r ⟨z, ex, q⟩
  subst ex
  obtain ⟨t, rfl⟩ := r
  cases ha : z.cps.all (· < 128) with
  | false => exact wpAny_pyIter_wide ha (pi_one (tk := s.toks) I _ (turn_str _ z t "str_iterator" (.inr rfl)) ⟨_, Heap.get?_push_size _ rfl, rfl, rfl⟩ q)
  | true => exact wpAny_pyIter_ascii ha (pi_one (tk := s.toks) I _ (turn_str _ z t "str_ascii_iterator" (.inl rfl)) ⟨_, Heap.get?_push_size _ rfl, rfl, rfl⟩ q)
theorem walk_str0 {z : List Nat} : Walk0 G (RVl G) (Its (strOf z)) fun i φ H c => c = .vals ((z.map fun k => Vl.str [k]).drop i) where
  evo := fun i φ H φ' H' c h t e => h
  stop := fun i φ η H c h S e => by
    subst h
    rw [vals_next] at e
    show (strOf z).cps.size ≤ i
    cases hx : (z.map fun k => Vl.str [k])[i]? with
    | some x => rw [hx] at e; cases e
    | none =>
      rw [List.getElem?_eq_none_iff] at hx
      simpa [strOf] using hx
  item := fun i φ η H c v c' h S e => by
    subst h
    rw [vals_next] at e
    cases hx : (z.map fun k => Vl.str [k])[i]? with
    | none => rw [hx] at e; cases e
    | some x =>
      rw [hx] at e
      cases e
      rw [List.getElem?_map] at hx
      cases hz : z[i]? with
      | none => rw [hz] at hx; cases hx
      | some k =>
        rw [hz] at hx
        cases hx
        have hk : (strOf z).cps[i]? = some k := by simpa [strOf] using hz
        refine ⟨?_, fun y H' ⟨e1, c, e2, e3⟩ => ?_⟩
        · show i < (strOf z).cps.size
          simpa [strOf] using (List.getElem?_eq_some_iff.mp hz).1
        · subst e1; subst e3
          rw [hk] at e2; cases e2
          exact ⟨Evo.refl, S, .str [k], rfl⟩
theorem walk_str {z : List Nat} : Walk G (RVl G) (Its (strOf z)) fun i φ H c => c = .vals ((z.map fun k => Vl.str [k]).drop i) :=
  { walk_str0 with away := fun D => ⟨_, walk_str0, ⟨fun i φ H c o u h _ _ _ => h⟩, fun φ H c h _ => h⟩ }
theorem si_new (O : XOk X G) {tg e : Expr} {f : EvQ} (he : SL X G e f) : SI X G (RVl G) tg e (iVals f) := fun W tk => by
  refine piWeak (pi_of iterV_seq (he W tk)) fun σ H R q => ?_
  obtain ⟨φ, η, r, S, E, p⟩ := q
  refine ⟨φ, η, r, S, E, ?_⟩
  have p : PostI X G (RVl G) (fun c d H' => W c d σ H') φ H ((f r η).bind fun xs h => .ok (.vals xs, none) h) R := p
  cases hf : f r η with
  | bad m => rw [hf] at p; exact p
  | ex c v η' => rw [hf] at p; exact p
  | ok xs η' =>
    rw [hf] at p
    rintro φ1 H1 v e1 S1 ⟨a, vs, rfl, h0, ha, hn, R1⟩
    exact ⟨false, a, vs, rfl, SqL.of ha, p φ1 H1 (ItB X.K false a) (fun i φ H c => Src0 G φ H false a i c) e1 S1 (by rw [O.K]; exact walk_seq) (Src.new ha hn (fun z => z) R1 (i := 0)) trivial⟩
theorem seqCur_src {φ : List Addr} {η : He} {H : Hp} {x : Vl} {v : V} {c : Cu} (S : Sim G φ η H) (r : RV G.K φ H x v) (h : seqCur η x = some c) : ∃ a vs, v = .ref a ∧ SqB G.K H (isTup x) a vs ∧ Src0 G φ H (isTup x) a 0 c := by
  cases r with
  | @tup xs a vs hq hl hx => cases h; exact ⟨a, vs, rfl, hq.t, Src.tup hq ⟨hl, hx⟩ (i := 0)⟩
  | @fl xs a vs hq hl hx => cases h; exact ⟨a, vs, rfl, hq.l, Src.fl hq ⟨hl, hx⟩ (i := 0)⟩
  | @loc m a hn =>
    have h' : (match η.get m with | some (.lst _) => some (Cu.lst m 0) | _ => none) = some c := h
    cases hg : η.get m with
    | none => rw [hg] at h'; cases h'
    | some o =>
      rw [hg] at h'
      cases o with
      | lst xs =>
        cases h'
        obtain ⟨vs, hH, _⟩ := locList S hn hg
        exact ⟨a, vs, rfl, SqL.of hH, Src.loc hn⟩
      | dic _ _ => cases h'
      | ins _ _ => cases h'
  | _ => cases h
theorem si_zip (O : XOk X G) {a b : Expr} {f g : EvE} {elts : List Expr} {kk : Nat} {np pos tpos : Pos} (B : Bn X "zip" (.type "zip")) (ha : SE X G a f) (hb : SE X G b g) (hn : ∀ v p, a ≠ .Starred v p) (hn' : ∀ v p, b ≠ .Starred v p) :
    SI X G (RP G) (.Tuple elts kk tpos) (.Call (.Name "zip" np) [a, b] [] pos) (FP.iZip f g) := fun W tk => by
  refine piWeak (RZ.pi_zipA B.g B.m (pa_cons (ha W tk) (pa_cons (hb W tk) pa_nil (starEach_cons hn')) (starEach_cons hn)) (starEach_cons hn) (NoStar.any (NoStar.one hn'))) fun σ H R q => ?_
  refine (ri_bind (R := RVl G) (k := fun v r h => (g r h).bind fun w h => match seqCur h v with | some c => (match seqCur h w with | some d => (match isTup v with | true => (match isTup w with | true => .ok (.zip c d, none) h | false => .bad 207) | false => (match isTup w with | true => .bad 207 | false => .ok (.zip c d, none) h)) | none => .bad 207) | none => .bad 207) q).imp ?_
  rintro v H1 ⟨φ1, η1, r1, x, S1, E1, R1, p1⟩
  refine (pi_bind (R := RVl G) (fa := g) (k := fun w h => match seqCur h x with | some c => (match seqCur h w with | some d => (match isTup x with | true => (match isTup w with | true => .ok (.zip c d, none) h | false => .bad 207) | false => (match isTup w with | true => .bad 207 | false => .ok (.zip c d, none) h)) | none => .bad 207) | none => .bad 207) S1 E1 p1).imp ?_
  rintro w H2 ⟨φ2, η2, y, ev, S2, E2, R2, p2⟩
  have R1' := R1.evo ev S1.trk
  cases h1 : seqCur η2 x with
  | none => simp only [h1] at p2; exact p2.elim
  | some c =>
    simp only [h1] at p2
    cases h2 : seqCur η2 y with
    | none => simp only [h2] at p2; exact p2.elim
    | some d =>
      simp only [h2] at p2
      obtain ⟨a1, vs, e1, q1, s1⟩ := seqCur_src S2 R1' h1
      obtain ⟨a2, ws, e2, q2, s2⟩ := seqCur_src S2 R2 h2
      refine ⟨a1, a2, vs, ws, by rw [e1, e2], ?_⟩
      cases t1 : isTup x with
      | true =>
        rw [t1] at s1 q1
        simp only [t1] at p2
        cases t2 : isTup y with
        | false => simp only [t2] at p2; exact p2.elim
        | true =>
          rw [t2] at s2 q2
          simp only [t2] at p2
          refine .inr ⟨by rw [O.K]; exact q1, by rw [O.K]; exact q2, ?_⟩
          rw [O.K]
          exact p2 φ2 H2 (ItzB G.K true a1 a2) _ Evo.refl S2 walk_zip ⟨c, d, rfl, s1, s2⟩ trivial
      | false =>
        rw [t1] at s1 q1
        simp only [t1] at p2
        cases t2 : isTup y with
        | true => simp only [t2] at p2; exact p2.elim
        | false =>
          rw [t2] at s2 q2
          simp only [t2] at p2
          refine .inl ⟨by rw [O.K]; exact q1, by rw [O.K]; exact q2, ?_⟩
          rw [O.K]
          exact p2 φ2 H2 (ItzB G.K false a1 a2) _ Evo.refl S2 walk_zip ⟨c, d, rfl, s1, s2⟩ trivial
theorem walk_rng0 {lo : Int} {n : Nat} : Walk0 G (RVl G) (Itr lo n) fun i φ H c => i ≤ n ∧ c = .rng (lo + i) 1 (n - i) where
  evo := fun i φ H φ' H' c h t e => h
  stop := fun i φ η H c ⟨h, ec⟩ S e => by
    subst ec
    cases hm : n - i with
    | zero => show n ≤ i; omega
    | succ m =>
      rw [hm] at e
      have e' : (iadd (lo + i) 1 fun l2 => Nx.item (.int (lo + i)) (.rng l2 1 m)) = .stop := e
      rw [iadd_eq] at e'; cases e'
  item := fun i φ η H c v c' ⟨h, ec⟩ S e => by
    subst ec
    cases hm : n - i with
    | zero => rw [hm] at e; cases e
    | succ m =>
      rw [hm] at e
      have e' : (iadd (lo + i) 1 fun l2 => Nx.item (.int (lo + i)) (.rng l2 1 m)) = .item v c' := e
      rw [iadd_eq] at e'
      cases e'
      refine ⟨by show i < n; omega, fun y H' ⟨e1, e2⟩ => ?_⟩
      subst e1; subst e2
      refine ⟨Evo.refl, S, .int _, by omega, ?_⟩
      congr 1
      · rw [Int.add_assoc]; congr 1
      · omega
theorem walk_rng {lo : Int} {n : Nat} : Walk G (RVl G) (Itr lo n) fun i φ H c => i ≤ n ∧ c = .rng (lo + i) 1 (n - i) :=
  { walk_rng0 with away := fun D => ⟨_, walk_rng0, ⟨fun i φ H c o u h _ _ _ => h⟩, fun φ H c h _ => h⟩ }
theorem ismall_in {i : Int} {k : Nat} (h : ismall i k = true) : -(2 ^ k) ≤ i ∧ i < 2 ^ k := by
  have := ismall_lt h
  have e : ((2 ^ k : Nat) : Int) = 2 ^ k := by norm_cast
  omega
theorem si_rng1 (O : XOk X G) {tg a : Expr} {f : EvE} {np pos : Pos} (B : Bn X "range" (.type "range")) (ha : SE X G a f) (hn : ∀ v p, a ≠ .Starred v p) : SI X G (RVl G) tg (.Call (.Name "range" np) [a] [] pos) (FP.iRng1 f) := fun W tk => by
  refine piWeak (pi_range1 B.g B.m (pa_cons (ha W tk) pa_nil (starEach_cons hn)) (starEach_cons hn)) fun σ H R q => ?_
  refine (ri_bind (R := RVl G) (k := fun x _ h => match x with | .int n => (match ismall n 62 with | true => .ok (.rng 0 1 n.toNat, none) h | false => .bad 205) | _ => .bad 205) q).imp ?_
  rintro v H1 ⟨φ1, η1, r1, x, S1, E1, R1, p1⟩
  cases R1 with
  | int n =>
    simp only at p1
    cases hs : ismall n 62 with
    | false => simp only [hs] at p1; exact p1.elim
    | true =>
      simp only [hs] at p1
      obtain ⟨h1, h2⟩ := ismall_in hs
      exact ⟨n, rfl, h1, h2, p1 φ1 H1 (Itr 0 n.toNat) _ Evo.refl S1 walk_rng ⟨Nat.zero_le _, rfl⟩ trivial⟩
  | _ => exact p1.elim
theorem si_rng2 (O : XOk X G) {tg a b : Expr} {f g : EvE} {np pos : Pos} (B : Bn X "range" (.type "range")) (ha : SE X G a f) (hb : SE X G b g) (hn : ∀ v p, a ≠ .Starred v p) (hn' : ∀ v p, b ≠ .Starred v p) : SI X G (RVl G) tg (.Call (.Name "range" np) [a, b] [] pos) (FP.iRng2 f g) := fun W tk => by
  have e2 : starEach [b] X.env = [(false, eval b X.env)] := starEach_cons hn'
  refine piWeak (pi_range2 B.g B.m (pa_cons (ha W tk) (pa_cons (hb W tk) pa_nil (starEach_cons hn')) (starEach_cons hn)) (by rw [starEach_cons hn, e2]) e2) fun σ H R q => ?_
  refine (ri_bind (R := RVl G) (k := fun x r h => (g r h).bind fun y h => match x with | .int i => (match y with | .int j => (match ismall i 62 with | true => (match ismall j 62 with | true => .ok (.rng i 1 (Int.sub j i).toNat, none) h | false => .bad 205) | false => .bad 205) | _ => .bad 205) | _ => .bad 205) q).imp ?_
  rintro v H1 ⟨φ1, η1, r1, x, S1, E1, R1, p1⟩
  refine (pi_bind (R := RVl G) (fa := g) (k := _) S1 E1 p1).imp ?_
  rintro w H2 ⟨φ2, η2, y, ev, S2, E2, R2, p2⟩
  cases R1 with
  | int i => cases R2 with
    | int j =>
      simp only at p2
      cases hs : ismall i 62 with
      | false => simp only [hs] at p2; exact p2.elim
      | true =>
        simp only [hs] at p2
        cases hs2 : ismall j 62 with
        | false => simp only [hs2] at p2; exact p2.elim
        | true =>
          simp only [hs2] at p2
          obtain ⟨h1, h2⟩ := ismall_in hs
          obtain ⟨h3, h4⟩ := ismall_in hs2
          refine ⟨i, j, rfl, ⟨h1, h2, h3, h4⟩, p2 φ2 H2 (Itr i (j - i).toNat) _ Evo.refl S2 walk_rng ⟨Nat.zero_le _, ?_⟩ trivial⟩
          show Cu.rng i 1 (j - i).toNat = .rng (i + ((0 : Nat) : Int)) 1 ((j - i).toNat - 0)
          rw [Int.natCast_zero, Int.add_zero, Nat.sub_zero]
    | _ => exact p2.elim
  | _ => exact p2.elim
end
end FP
end
section
namespace FP
open PySem PySem.Spec PyProof.Rows L2 PySem.SeqAt

section
variable {X : Cx} {G : Gd}
def Unl (X : Cx) (H H' : Hp) : Prop := H' = H ∨ ∃ d od u, H d = some (.frz od u) ∧ NF X d ∧ H' = upd H d u
theorem Unl.inv {pins : List (Addr × Obj)} {σ : L2.St} {H H' : Hp} {s : Shared} (I : Inv X pins σ H s) (u : Unl X H H') : Inv X pins σ H' s := by
  rcases u with rfl | ⟨d, od, u, h, n, rfl⟩
  · exact I
  · exact I.unlock h n
def unlE (X : Cx) (D : Ends) : Ends := ⟨fun σ H => ∃ H', Unl X H H' ∧ D.nx σ H', fun v H => ∃ H', Unl X H H' ∧ D.rt v H', fun σ H => ∃ H', Unl X H H' ∧ D.bk σ H', fun σ H => ∃ H', Unl X H H' ∧ D.ct σ H'⟩
theorem ps_unl {st : Stmt} {t : TS} (h : PS X st t) : PS X st fun D σ H => t (unlE X D) σ H := by
  refine ⟨fun pins s σ H D I hw => thn (h.run pins s σ H _ I hw) fun f s1 q => ?_⟩
  cases f with
  | next => obtain ⟨σ', H', I2, H2, u, q⟩ := q; exact ⟨σ', H2, u.inv I2, q⟩
  | brk => obtain ⟨σ', H', I2, H2, u, q⟩ := q; exact ⟨σ', H2, u.inv I2, q⟩
  | cont => obtain ⟨σ', H', I2, H2, u, q⟩ := q; exact ⟨σ', H2, u.inv I2, q⟩
  | ret v => obtain ⟨x, σ', H', I2, r, H2, u, q⟩ := q; exact ⟨x, σ', H2, u.inv I2, r, q⟩
theorem pe_unl {e : Expr} {t : TE} (h : PE X e t) : PE X e fun σ H Q => t σ H fun v H1 => ∃ H', Unl X H1 H' ∧ Q v H' :=
  ⟨fun pins s σ H Q I hw => thn (h.run pins s σ H _ I hw) fun v s1 ⟨x, H1, I1, r, H', u, q⟩ => ⟨x, H', u.inv I1, r, q⟩⟩
/-- the dict is let go; φ0, H0: before the walk -/
theorem Sim.unlk {φ0 φ : List Addr} {η η' : He} {H0 H : Hp} {o : Option Nat} (e0 : Evo φ0 H0 φ H) (S : Sim G φ η H) (l : LkF X o φ H0) (h : FP.unlk o η = some η') : ∃ H', Unl X H H' ∧ Evo φ0 H0 φ H' ∧ Kept H H' ∧ (∀ b, b ∉ φ → H' b = H b) ∧ Sim G φ η' H' := by
  cases o with
  | none => cases h; exact ⟨H, .inl rfl, e0, fun _ _ e _ => e, fun _ _ => rfl, S⟩
  | some q =>
    obtain ⟨a, hn, nf, nb⟩ := l
    have h' : (match η.get q with | some (.dic c es) => (match c with | true => some (η.set q (.dic false es)) | false => none) | _ => none) = some η' := h
    obtain ⟨o, ho, r⟩ := S.ob q a hn
    rw [ho] at h'
    cases o with
    | lst _ => cases h'
    | ins _ _ => cases h'
    | dic c es =>
      cases c with
      | false => cases h'
      | true =>
        cases h'
        obtain ⟨u, ⟨od, hu⟩, rd⟩ := r
        have kp : Kept H (L2.upd H a u) := Kept.set S (mem_at hn)
        refine ⟨L2.upd H a u, .inr ⟨a, od, u, hu, nf, rfl⟩, ⟨e0.pre, fun b v e m => ?_, e0.new, fun b x v e => ?_⟩, kp, fun b m => upd_ne (by rintro rfl; exact m (mem_at hn)), S.set hn ho ⟨u, upd_same, rd.kept kp⟩⟩
        · have e1 := e0.old b v e m
          rw [upd_ne]
          · exact e1
          · rintro rfl
            rw [hu] at e1
            cases e1
            exact nb _ _ e
        · rw [upd_ne (by rintro rfl; exact nb _ _ e)]
          exact e0.frz b x v e
theorem LkF.evo {o : Option Nat} {φ φ' : List Addr} {H0 H H' : Hp} (l : LkF X o φ H0) (e : Evo φ H φ' H') : LkF X o φ' H0 := by
  cases o with
  | none => trivial
  | some q => obtain ⟨a, h, n, f⟩ := l; exact ⟨a, e.at h, n, f⟩
/-- what ends a walk, the dict let go -/
theorem PostS.unlk {n : Nat} {W : WX} {φ0 φ : List Addr} {η : He} {H0 H : Hp} {f : Fl} {o : Option Nat} {D : Ends} (e0 : Evo φ0 H0 φ H) (l : LkF X o φ H0) (p : PostS G n W φ0 H0 ((Rst.ok f η).unlk o) D) : PostS G n W φ H (.ok f η) (unlE X D) := by
  have p' : PostS G n W φ0 H0 (match FP.unlk o η with | some h => .ok f h | none => .bad 253) D := p
  cases hu : FP.unlk o η with
  | none => simp only [hu] at p'; exact p'.elim
  | some η' =>
    simp only [hu] at p'
    cases f with
    | nx r' =>
      intro φ' H' σ' e S' E'
      obtain ⟨H2, u, ev, kp, _, S2⟩ := S'.unlk (e0.trans e) (l.evo e) hu
      exact ⟨H2, u, p' φ' H2 σ' ev S2 (E'.kept kp)⟩
    | rt v =>
      intro φ' H' w e S' rv
      obtain ⟨H2, u, ev, kp, _, S2⟩ := S'.unlk (e0.trans e) (l.evo e) hu
      exact ⟨H2, u, p' φ' H2 w ev S2 (rv.kept kp)⟩
    | bk r' =>
      intro φ' H' σ' e S' E'
      obtain ⟨H2, u, ev, kp, _, S2⟩ := S'.unlk (e0.trans e) (l.evo e) hu
      exact ⟨H2, u, p' φ' H2 σ' ev S2 (E'.kept kp)⟩
    | ct r' =>
      intro φ' H' σ' e S' E'
      obtain ⟨H2, u, ev, kp, _, S2⟩ := S'.unlk (e0.trans e) (l.evo e) hu
      exact ⟨H2, u, p' φ' H2 σ' ev S2 (E'.kept kp)⟩
/-- what the body of a loop is to reach; φb, Hb: before the walk -/
def nextE (X : Cx) (G : Gd) (n : Nat) (W : WX) (k : EvS) (o : Option Nat) (D : Ends) (φb : List Addr) (Hb : Hp) (φ0 : List Addr) (H0 : Hp) : Ends :=
  ⟨fun σ' H' => ∃ φ' η' r', Evo φ0 H0 φ' H' ∧ Sim G φ' η' H' ∧ EnvR G n φ' H' r' σ' ∧ PostS G n W φb Hb ((k r' η').unlk o) D, (unlE X D).rt, (unlE X D).nx,
   fun σ' H' => ∃ φ' η' r', Evo φ0 H0 φ' H' ∧ Sim G φ' η' H' ∧ EnvR G n φ' H' r' σ' ∧ PostS G n W φb Hb ((k r' η').unlk o) D⟩
/-- any end of a loop's body -/
theorem rs_loopU {n : Nat} {W : WX} {f k : EvS} {o : Option Nat} {D : Ends} {φb φ0 φ : List Addr} {η : He} {r : Env} {σ : L2.St} {Hb H0 H : Hp} (eb : Evo φb Hb φ H) (e0 : Evo φ0 H0 φ H) (S : Sim G φ η H) (E : EnvR G n φ H r σ) (l : LkF X o φ Hb) (p : PostS G n W φb Hb (((f r η).loop fun r h => k r h).unlk o) D) :
    rs G n W f (nextE X G n W k o D φb Hb φ0 H0) σ H := by
  refine ⟨φ, η, r, S, E, ?_⟩
  cases hf : f r η with
  | bad m => rw [hf] at p; exact p
  | ex c v r' η' => rw [hf] at p; exact PostS.from (D := D) eb p
  | ok fl η' =>
    rw [hf] at p
    cases fl with
    | nx r' => exact fun φ' H' σ' e S' E' => ⟨φ', η', r', e0.trans e, S', E', p⟩
    | ct r' => exact fun φ' H' σ' e S' E' => ⟨φ', η', r', e0.trans e, S', E', p⟩
    | rt v => exact fun φ' H' w e S' rv => PostS.unlk (eb.trans e) (l.evo e) p φ' H' w Evo.refl S' rv
    | bk r' =>
      intro φ' H' σ' e S' E'
      have p2 : PostS G n W φb Hb ((Rst.ok (.nx r') η').unlk o) D := p
      exact PostS.unlk (eb.trans e) (l.evo e) p2 φ' H' σ' Evo.refl S' E'
def plainIt : Expr → Bool
  | .Set _ _ _ => false
  | _ => true
theorem folded_of {e : Expr} {env : PySem.Env} (h : plainIt e = true) (x : Value) : foldedSetIterable e env x = pure x := by
  unfold foldedSetIterable
  split
  · cases h
  · rfl
theorem s_for (O : XOk X G) (hp : PassesOwn (model X.prog X.w) X.A X.env X.xe) {IR : List Addr → Hp → Vl → V → Prop} {L : List Nat} {tg iter : Expr} {body : List Stmt} {i : EvI} {g : EvG} {b : EvS} {pos : Pos} (hi : SI X G IR tg iter i) (hg : SGi X G IR L tg g) (hb : SSs X G body b) (hs : plainIt iter = true) :
    SS X G (.For tg iter body [] pos) (sFor i g b) := fun W tk => by
  refine psWeak (ps_unl (ps_for hp O.calm (hi W tk) hg (hb W tk) (folded_of hs))) fun D σ Hb ⟨φb, η, r, S, E, p⟩ => ?_
  refine ⟨φb, η, r, S, E, ?_⟩
  have p : PostS G X.N.length W φb Hb ((i r η).toS r fun p h => (forL g b 100000 p.1 r h).unlk p.2) D := p
  cases hx : i r η with
  | bad m => rw [hx] at p; exact p
  | ex c v η' => rw [hx] at p; exact fun φ' H' cls d e S' x => p φ' H' σ cls d e S' (E.evo e S.trk) x
  | ok pr η' =>
    rw [hx] at p
    have p : PostS G X.N.length W φb Hb ((forL g b 100000 pr.1 r η').unlk pr.2) D := p
    intro φ1 H1 J C e1 S1 wk c0 lk
    refine ⟨fun i m σ H => ∃ φ η r c, Evo φb Hb φ H ∧ Sim G φ η H ∧ EnvR G X.N.length φ H r σ ∧ C i φ H c ∧ LkF X pr.2 φ Hb ∧ PostS G X.N.length W φb Hb ((forL g b m c r η).unlk pr.2) D, ⟨100000, φ1, η', r, pr.1, e1, S1, E.evo e1 S.trk, c0, lk, p⟩, ?_⟩
    rintro i m σ H ⟨φ, η, r, c, eb, S, E, hc, lk, p⟩
    cases m with
    | zero => exact p.elim
    | succ m =>
      have p : PostS G X.N.length W φb Hb ((match next η c with | .stop => Rst.ok (.nx r) η | .bad => .bad 251 | .item v c => (g v r η).toN fun r h => (b r h).loop fun r h => forL g b m c r h).unlk pr.2) D := p
      cases hn : next η c with
      | bad => rw [hn] at p; exact p.elim
      | stop =>
        rw [hn] at p
        exact .inl ⟨wk.stop i φ η H c hc S hn, PostS.unlk eb lk p φ H σ Evo.refl S E⟩
      | item v c' =>
        rw [hn] at p
        have p : PostS G X.N.length W φb Hb (((g v r η).toN fun r h => (b r h).loop fun r h => forL g b m c' r h).unlk pr.2) D := p
        obtain ⟨hgo, hy⟩ := wk.item i φ η H c v c' hc S hn
        refine .inr ⟨hgo, fun σ' H' => ∃ φ' η' r', Evo φb Hb φ' H' ∧ Sim G φ' η' H' ∧ EnvR G X.N.length φ' H' r' σ' ∧ C (i + 1) φ' H' c' ∧ LkF X pr.2 φ' Hb ∧ PostS G X.N.length W φb Hb ((forL g b m c' r' η').unlk pr.2) D, fun σ' H' ⟨φ', η', r', eb', S', E', hc', lk', p'⟩ => ⟨m, Nat.lt_succ_self m, φ', η', r', c', eb', S', E', hc', lk', p'⟩, fun x H' y => ?_⟩
        obtain ⟨ev, S2, ir, hc2⟩ := hy x H' y
        refine ⟨φ, η, r, v, S2, E.evo ev S.trk, ir, ?_⟩
        cases hg2 : g v r η with
        | ex _ _ _ => rw [hg2] at p; exact p.elim
        | bad _ => rw [hg2] at p; exact p.elim
        | ok r' η2 =>
          rw [hg2] at p
          intro φ3 H3 σ3 e3 S3 E3 _
          have q := rs_loopU (X := X) (k := fun r h => forL g b m c' r h) (o := pr.2) (D := D) (eb.trans (ev.trans e3)) e3 S3 E3 ((lk.evo ev).evo e3) p
          obtain ⟨φ4, η4, r4, S4, E4, q⟩ := q
          refine ⟨φ4, η4, r4, S4, E4, ?_⟩
          have up : ∀ (σ' : L2.St) (H5 : Hp), (∃ φ' η' r', Evo φ H' φ' H5 ∧ Sim G φ' η' H5 ∧ EnvR G X.N.length φ' H5 r' σ' ∧ PostS G X.N.length W φb Hb ((forL g b m c' r' η').unlk pr.2) D) → ∃ φ' η' r', Evo φb Hb φ' H5 ∧ Sim G φ' η' H5 ∧ EnvR G X.N.length φ' H5 r' σ' ∧ C (i + 1) φ' H5 c' ∧ LkF X pr.2 φ' Hb ∧ PostS G X.N.length W φb Hb ((forL g b m c' r' η').unlk pr.2) D := fun σ' H5 ⟨φ', η', r', e5, S5, E5, p5⟩ =>
            ⟨φ', η', r', eb.trans (ev.trans e5), S5, E5, wk.evo _ _ _ _ _ _ hc2 S2.trk e5, (lk.evo ev).evo e5, p5⟩
          cases hb2 : b r4 η4 with
          | bad _ => rw [hb2] at q; exact q
          | ex c v r' η' => rw [hb2] at q; exact q
          | ok fl η5 =>
            rw [hb2] at q
            cases fl with
            | nx r' => exact fun φ' H' σ' e S' E' => up σ' H' (q φ' H' σ' e S' E')
            | ct r' => exact fun φ' H' σ' e S' E' => up σ' H' (q φ' H' σ' e S' E')
            | rt v => exact q
            | bk r' => exact q

theorem wipe_in {σ : L2.St} {k : Nat} : ∀ {vs : List Nat}, k ∈ vs → (wipe σ vs).set k none = wipe σ vs
  | [], h => nomatch h
  | v :: vs, h => by
    show ((wipe σ vs).set v none).set k none = (wipe σ vs).set v none
    by_cases e : k = v
    · subst e; rw [List.set_set]
    · have m : k ∈ vs := by rcases List.mem_cons.mp h with h | h; exact absurd h e; exact h
      rw [List.set_comm _ _ (Ne.symm e), wipe_in m]
theorem wipe_sub {σ : L2.St} {vs : List Nat} : ∀ {L : List Nat}, (∀ k ∈ L, k ∈ vs) → wipe (wipe σ vs) L = wipe σ vs
  | [], _ => rfl
  | k :: L, h => by
    show (wipe (wipe σ vs) L).set k none = wipe σ vs
    rw [wipe_sub fun j m => h j (List.mem_cons_of_mem _ m), wipe_in (h k List.mem_cons_self)]
theorem EnvR.wipe {n : Nat} {φ : List Addr} {H : Hp} {r : Env} {σ : L2.St} (E : EnvR G n φ H r σ) (h9 : n ≤ 49) : ∀ {vs : List Nat}, (∀ k ∈ vs, k < n) → EnvR G n φ H (wipeL (vs.map sOf) r) (L2.wipe σ vs)
  | [], _ => E
  | k :: vs, h => (EnvR.wipe E h9 fun j m => h j (List.mem_cons_of_mem _ m)).unset (h k List.mem_cons_self) h9 none
theorem Evo.mut {φ φ' : List Addr} {H H' : Hp} {D : Addr} {o : HO} (e : Evo φ H φ' H') (hD : H D = none) : Evo φ H φ' (L2.upd H' D o) :=
  ⟨e.pre, fun a u h n => by rw [upd_ne (by rintro rfl; rw [hD] at h; cases h)]; exact e.old a u h n, e.new, fun a o u h => by rw [upd_ne (by rintro rfl; rw [hD] at h; cases h)]; exact e.frz a o u h⟩
theorem Evo.notIn {φ φ' : List Addr} {H H' : Hp} {D : Addr} {o : HO} (e : Evo φ H φ' H') (h : D ∉ φ) (hD : H D = some o) : D ∉ φ' := fun m => by
  have := e.new D m h
  rw [hD] at this; cases this
def STs (X : Cx) (G : Gd) (ifs : List Expr) (t : EvT) : Prop := ∀ W, Takes X W → PTs X ifs (rd G X.N.length RBl W t)
theorem ptsWeak {e : List Expr} {t t' : TT} (h : PTs X e t) (i : ∀ σ H Q, t' σ H Q → t σ H Q) : PTs X e t' := ⟨fun pins s σ H Q I q => h.run pins s σ H Q I (i σ H Q q)⟩
theorem sts_nil : STs X G [] FP.tYes := fun W tk => ptsWeak pts_nil fun σ H Q ⟨φ, η, r, S, E, p⟩ => p φ H true Evo.refl S rfl
theorem sts_one {c : Expr} {t : EvT} (h : ST X G c t) : STs X G [c] t := fun W tk => pts_one (h W tk)
def W0 : WX := fun _ _ _ _ => False
theorem takes0 {s : Shared} {H : Hp} {scope : Scope} {env : PySem.Env} {fp : List Addr} : Takes (X.blk s H scope env fp) W0 := fun u s' ⟨a, B, sI, pins, σ, H, cls, d, e, I, nb, up, sky, na, os, ag, w⟩ => w
theorem post_of {α β : Type} {R : List Addr → Hp → α → β → Prop} {W : Value → Option Addr → Hp → Prop} {φ : List Addr} {H : Hp} {x : Rs α} {a : α} {η : He} {Q : β → Hp → Prop} (h : x = .ok a η) (q : ∀ φ' H' b, Evo φ H φ' H' → Sim G φ' η H' → R φ' H' a b → Q b H') : Post G R W φ H x Q := by
  subst h; exact q
theorem lc_reads (O : XOk X G) {IR : List Addr → Hp → Vl → V → Prop} {vs : List Nat} {i : EvI} {g : EvG} {t : EvT} {e : EvE} (hv : ∀ k ∈ vs, k < X.N.length) {W : WX} {σ : L2.St} {H : Hp} {Q : V → Hp → Prop} (q : rdL G X.N.length W (qComp (vs.map sOf) i g t (cElt e)) σ H Q) :
    tLc (ri X G IR X.N.length W i) (rg G IR X.N.length vs g) (rd G X.N.length RBl W0 t) (rd G X.N.length (RVl G) W0 e) vs σ H fun v H1 => ∃ H', Unl X H1 H' ∧ Q v H' := by
  obtain ⟨φ0, η, r, S, E, p⟩ := q
  refine ⟨φ0, η, r, S, E, ?_⟩
  have p : Post G (RL G H) (fun c d H' => W c d σ H') φ0 H ((i r η).bind fun p h => (cLoop g t (cElt e) (wipeL (vs.map sOf) r) 10000 p.1 h []).bindN fun acc h => match unlk p.2 h with | some h => .ok acc.reverse h | none => .bad 223) Q := p
  cases hx : i r η with
  | bad m => rw [hx] at p; exact p
  | ex c v η' => rw [hx] at p; exact p
  | ok pr η' =>
    rw [hx] at p
    have p : Post G (RL G H) (fun c d H' => W c d σ H') φ0 H ((cLoop g t (cElt e) (wipeL (vs.map sOf) r) 10000 pr.1 η' []).bindN fun acc h => match unlk pr.2 h with | some h => .ok acc.reverse h | none => .bad 223) Q := p
    intro φ1 H1 J C e1 S1 wk c0 lk D hD
    obtain ⟨C', wk', aw, st⟩ := wk.away D
    have hD0 : H D = none := e1.fresh S1.trk hD
    have E1 := (E.evo e1 S.trk).wipe O.few hv
    refine ⟨fun i m Hc => ∃ φ η c acc ws, Evo φ0 H φ Hc ∧ Sim G φ η Hc ∧ EnvR G X.N.length φ Hc (wipeL (vs.map sOf) r) (L2.wipe σ vs) ∧ C' i φ Hc c ∧ LkF X pr.2 φ H ∧ Hc D = some (.lst ws) ∧ D ∉ φ ∧ RVs G.K φ Hc acc.reverse ws ∧ acc.length + m ≤ 10000 ∧
      Post G (RL G H) (fun c d H' => W c d σ H') φ0 H ((cLoop g t (cElt e) (wipeL (vs.map sOf) r) m c η acc).bindN fun acc h => match unlk pr.2 h with | some h => .ok acc.reverse h | none => .bad 223) Q,
      ⟨10000, φ1, η', pr.1, [], [], e1.trans (Evo.upd hD), S1.upd hD, E1.evo (Evo.upd hD) S1.trk, wk'.evo _ _ _ _ _ _ (st φ1 H1 pr.1 c0 hD) S1.trk (Evo.upd hD), lk, upd_same, S1.notIn hD, RVs.nil, Nat.le_refl _, p⟩, ?_⟩
    rintro i m Hc ⟨φ, η, c, acc, ws, ev, S, Ew, hc, lk, hHD, hnD, R, hlen, p⟩
    cases m with
    | zero => exact p.elim
    | succ m =>
      have p : Post G (RL G H) (fun c d H' => W c d σ H') φ0 H ((match next η c with | .stop => Rs.ok acc η | .bad => .bad 222 | .item v c => (g v (wipeL (vs.map sOf) r) η).bindN fun r' h => (t r' h).bindN fun k h => (match k with | true => (cElt e r' h acc).bindN fun acc h => cLoop g t (cElt e) (wipeL (vs.map sOf) r) m c h acc | false => cLoop g t (cElt e) (wipeL (vs.map sOf) r) m c h acc)).bindN fun acc h => match unlk pr.2 h with | some h => .ok acc.reverse h | none => .bad 223) Q := p
      cases hn : next η c with
      | bad => rw [hn] at p; exact p.elim
      | stop =>
        rw [hn] at p
        refine .inl ⟨wk'.stop i φ η Hc c hc S hn, ?_⟩
        have p : Post G (RL G H) (fun c d H' => W c d σ H') φ0 H (match unlk pr.2 η with | some h => .ok acc.reverse h | none => .bad 223) Q := p
        cases hu : unlk pr.2 η with
        | none => simp only [hu] at p; exact p.elim
        | some η2 =>
          simp only [hu] at p
          obtain ⟨H2, u, ev2, kp, off, S2⟩ := S.unlk ev lk hu
          exact ⟨H2, u, p φ H2 (.ref D) ev2 S2 ⟨D, ws, rfl, hD0, by rw [off D hnD]; exact hHD, hnD, R.kept kp⟩⟩
      | item v c' =>
        rw [hn] at p
        simp only at p
        obtain ⟨hgo, hy⟩ := wk'.item i φ η Hc c v c' hc S hn
        refine .inr ⟨hgo, fun H' => ∃ φ η c acc ws, Evo φ0 H φ H' ∧ Sim G φ η H' ∧ EnvR G X.N.length φ H' (wipeL (vs.map sOf) r) (L2.wipe σ vs) ∧ C' (i + 1) φ H' c ∧ LkF X pr.2 φ H ∧ H' D = some (.lst ws) ∧ D ∉ φ ∧ RVs G.K φ H' acc.reverse ws ∧ acc.length + m ≤ 10000 ∧
          Post G (RL G H) (fun c d H' => W c d σ H') φ0 H ((cLoop g t (cElt e) (wipeL (vs.map sOf) r) m c η acc).bindN fun acc h => match unlk pr.2 h with | some h => .ok acc.reverse h | none => .bad 223) Q, fun H' q => ⟨m, Nat.lt_succ_self m, q⟩, fun x H' y => ?_⟩
        obtain ⟨ev2, S2, ir, hc2⟩ := hy x H' y
        refine ⟨φ, η, wipeL (vs.map sOf) r, v, S2, Ew.evo ev2 S.trk, ir, ?_⟩
        cases hg2 : g v (wipeL (vs.map sOf) r) η with
        | ex _ _ _ => rw [hg2] at p; exact p.elim
        | bad _ => rw [hg2] at p; exact p.elim
        | ok r' η2 =>
          rw [hg2] at p
          intro φ3 H3 σ3 e3 S3 E3 hw
          refine ⟨by rw [hw, wipe_sub fun k m => m], φ3, η2, r', S3, E3, ?_⟩
          have p : Post G (RL G H) (fun c d H' => W c d σ H') φ0 H (((t r' η2).bindN fun k h => (match k with | true => (cElt e r' h acc).bindN fun acc h => cLoop g t (cElt e) (wipeL (vs.map sOf) r) m c' h acc | false => cLoop g t (cElt e) (wipeL (vs.map sOf) r) m c' h acc)).bindN fun acc h => match unlk pr.2 h with | some h => .ok acc.reverse h | none => .bad 223) Q := p
          cases ht2 : t r' η2 with
          | ex _ _ _ => rw [ht2] at p; exact p.elim
          | bad _ => rw [ht2] at p; exact p.elim
          | ok k η4 =>
            rw [ht2] at p
            intro φ4 H4 b e4 S4 hb
            subst hb
            have f4 := ev2.trans (e3.trans e4)
            have D4 := f4.old _ _ hHD hnD
            have n4 := f4.notIn hnD hHD
            have E4 := Ew.evo f4 S.trk
            have C4 := wk'.evo _ _ _ _ _ _ hc2 S2.trk (e3.trans e4)
            cases k with
            | false => exact ite_of (fun z => nomatch z) fun _ => ⟨φ4, η4, c', acc, ws, ev.trans f4, S4, E4, C4, lk.evo f4, D4, n4, R.evo f4 S.trk, by omega, p⟩
            | true =>
              refine ite_of (fun _ => ?_) fun z => nomatch z
              refine ⟨φ4, η4, r', S4, E3.evo e4 S3.trk, ?_⟩
              have p : Post G (RL G H) (fun c d H' => W c d σ H') φ0 H ((((e r' η4).bindN fun v h => cPut v acc h).bindN fun acc h => cLoop g t (cElt e) (wipeL (vs.map sOf) r) m c' h acc).bindN fun acc h => match unlk pr.2 h with | some h => .ok acc.reverse h | none => .bad 223) Q := p
              cases he2 : e r' η4 with
              | ex _ _ _ => rw [he2] at p; exact p.elim
              | bad _ => rw [he2] at p; exact p.elim
              | ok w η5 =>
                rw [he2] at p
                intro φ5 H5 y e5 S5 ry
                have f5 := f4.trans e5
                have D5 := f5.old _ _ hHD hnD
                have n5 := f5.notIn hnD hHD
                have lw : ws.length = acc.length := by have := R.1; simp at this; omega
                have ls : (10000 : Nat) < sizeLine := by decide
                refine ⟨ws, D5, by omega, φ5, η5, c', w :: acc, ws ++ [y], (ev.trans f5).mut hD0, S5.mut n5 D5, (Ew.evo f5 S.trk).mut D5, aw.mv _ _ _ _ _ _ (wk'.evo _ _ _ _ _ _ C4 S4.trk e5) n5 D5 True.intro, lk.evo f5, upd_same, n5, ?_, by simp; omega, p⟩
                rw [List.reverse_cons]
                exact ((R.evo f5 S.trk).append (RVs.cons ry RVs.nil)).mut D5
/-- [e for tg in iter if ..]: a new list -/
theorem l_lc (O : XOk X G) {IR : List Addr → Hp → Vl → V → Prop} {elt tg iter : Expr} {ifs : List Expr} {scope : Scope} {own : List (Str × Nat)} {pos : Pos} {i : EvI} {g : EvG} {t : EvT} {e : EvE} (ok : blkC X.N X.env.scope scope own = true) (hi : SI X G IR tg iter i)
    (hg : ∀ s H C cl fp, SGi (X.blk s H scope (compEnvC scope cl C X.env) fp) G IR (own.map (·.2)) tg g) (ht : ∀ s H C cl fp, STs (X.blk s H scope (compEnvC scope cl C X.env) fp) G ifs t)
    (he : ∀ s H C cl fp, SE (X.blk s H scope (compEnvC scope cl C X.env) fp) G elt e) (hs : plainIt iter = true) :
    SL X G (.ListComp elt [⟨tg, iter, ifs, 0⟩] scope pos) (qComp ((own.map (·.2)).map sOf) i g t (cElt e)) := fun W tk => by
  have bo := blkOk_by ok
  have hv : ∀ k ∈ own.map (·.2), k < X.N.length := fun k m => by
    obtain ⟨p, hp, rfl⟩ := List.mem_map.mp m
    exact (List.getElem?_eq_some_iff.mp (bo.ix p hp)).1
  have hg' : ∀ (s : Shared) (H : Hp) (C : Addr) (cl : List (Str × Addr)) (fp : List Addr), PG (X.blk s H scope (compEnvC scope cl C X.env) fp) tg (rg G IR X.N.length (own.map (·.2)) g) := hg
  refine peWeak (pe_unl (pe_lc (tt := rd G X.N.length RBl W0 t) (te := rd G X.N.length (RVl G) W0 e) O.calm O.nd (hi W tk) bo hg' (fun s H C cl fp => ht s H C cl fp W0 takes0) (fun s H C cl fp => he s H C cl fp W0 takes0) (folded_of hs))) fun σ H Q q => ?_
  exact lc_reads O hv q

theorem rs_newL {n : Nat} {W : WX} {f : EvQ} {g : EvG} {D : Ends} {σ : L2.St} {H : Hp} {IRQ : V → L2.St → Hp → Prop} (h : rs G n W (sAsg g (eQ qList f)) D σ H)
    (hq : ∀ φ η r v H1 (x : Vl), Sim G φ η H1 → EnvR G n φ H1 r σ → RV G.K φ H1 x v → PostS G n W φ H1 ((g x r η).toN fun r h => .ok (.nx r) h) D → IRQ v σ H1) : rdL G n W f σ H fun v H1 => IRQ v σ H1 := by
  obtain ⟨φ, η, r, S, E, p⟩ := h
  refine ⟨φ, η, r, S, E, ?_⟩
  have p : PostS G n W φ H (((f r η).bind fun xs h => qList xs h).toS r fun v h => (g v r h).toN fun r h => .ok (.nx r) h) D := p
  cases hf : f r η with
  | bad m => rw [hf] at p; exact p
  | ex c v η' => rw [hf] at p; exact fun φ' H' cls d e S' x => p φ' H' σ cls d e S' (E.evo e S.trk) x
  | ok xs η' =>
    rw [hf] at p
    rintro φ1 H1 v e1 S1 ⟨a, vs, rfl, h0, ha, hn, R1⟩
    have p2 : PostS G n W φ H ((newL xs η').toS r fun v h => (g v r h).toN fun r h => .ok (.nx r) h) D := p
    unfold newL at p2
    rw [He.new_eq] at p2
    have E2 : EnvR G n (φ1 ++ [a]) H1 r σ := by
      have E1 := E.evo e1 S.trk
      refine ⟨E1.len, fun i x hx hi => ?_⟩
      obtain ⟨v, h1, h2⟩ := E1.at' i x hx hi
      refine ⟨v, h1, ?_⟩
      clear h1 hx
      induction h2 with
      | non => exact .non
      | bl b => exact .bl b
      | int i => exact .int i
      | str s => exact .str s
      | tup h hl _ ih => exact .tup h hl ih
      | fl h hl _ ih => exact .fl h hl ih
      | loc h => exact .loc (by rw [List.getElem?_append_left (List.getElem?_eq_some_iff.mp h).1]; exact h)
    refine hq (φ1 ++ [a]) _ r _ H1 (.loc η'.n) (S1.new (o := .lst xs) hn ⟨vs, ha, R1⟩) E2 (.loc ?_) (PostS.from (e1.add h0) p2)
    rw [List.getElem?_append_right (by rw [S1.len]; exact Nat.le_refl _), S1.len, Nat.sub_self]; rfl
theorem s_setLc (O : XOk X G) {IR : List Addr → Hp → Vl → V → Prop} {elt tg iter : Expr} {ifs : List Expr} {scope : Scope} {own : List (Str × Nat)} {pos spos py : Pos} {j : Nat} {y : Str} {i : EvI} {g : EvG} {t : EvT} {e : EvE} (hy : X.N[j]? = some y) (hyl : X.env.scope.names.lookup y = some .local)
    (hsw : swapsWith (.ListComp elt [⟨tg, iter, ifs, 0⟩] scope pos) (some (.Name y py)) spos.line X.env = pure true) (ok : blkC X.N X.env.scope scope own = true) (hi : SI X G IR tg iter i)
    (hg : ∀ s H C cl fp, SGi (X.blk s H scope (compEnvC scope cl C X.env) fp) G IR (own.map (·.2)) tg g) (ht : ∀ s H C cl fp, STs (X.blk s H scope (compEnvC scope cl C X.env) fp) G ifs t)
    (he : ∀ s H C cl fp, SE (X.blk s H scope (compEnvC scope cl C X.env) fp) G elt e) (hs : plainIt iter = true) :
    SS X G (.Assign [.Name y py] (.ListComp elt [⟨tg, iter, ifs, 0⟩] scope pos) spos) (sAsg (gNm (sOf j)) (eQ qList (qComp ((own.map (·.2)).map sOf) i g t (cElt e)))) := fun W tk => by
  have bo := blkOk_by ok
  have hv : ∀ k ∈ own.map (·.2), k < X.N.length := fun k m => by
    obtain ⟨p, hp, rfl⟩ := List.mem_map.mp m
    exact (List.getElem?_eq_some_iff.mp (bo.ix p hp)).1
  have hj : j < X.N.length := (List.getElem?_eq_some_iff.mp hy).1
  have hg' : ∀ (s : Shared) (H : Hp) (C : Addr) (cl : List (Str × Addr)) (fp : List Addr), PG (X.blk s H scope (compEnvC scope cl C X.env) fp) tg (rg G IR X.N.length (own.map (·.2)) g) := hg
  refine psWeak (ps_unl (ps_setLc (tt := rd G X.N.length RBl W0 t) (te := rd G X.N.length (RVl G) W0 e) O.calm O.nd hy hyl hsw (hi W tk) bo hg' (fun s H C cl fp => ht s H C cl fp W0 takes0) (fun s H C cl fp => he s H C cl fp W0 takes0) (folded_of hs))) fun D σ H q => ?_
  refine lc_reads O hv (Q := fun v H1 => D.nx (σ.set j (some v)) H1) (rs_newL (IRQ := fun v σ H1 => D.nx (σ.set j (some v)) H1) q fun φ η r v H1 x S E R p => ?_)
  exact p φ H1 _ Evo.refl S (E.set hj O.few R)
end
end FP
end
section
namespace FP
open PySem PySem.Spec PyProof.Rows L2 PySem.SeqAt

/-- what a def promises: as the evaluator's function F does, of n arguments -/
def spF (G : Gd) (n : Nat) (F : FnF) : Sp := fun vs H Q E => vs.length = n ∧ ∃ φ η xs, Sim G φ η H ∧ RVs G.K φ H xs vs ∧ Post G (RVl G) E φ H (F xs η) Q
section
variable {G : Gd}
theorem bindL_env {n : Nat} (h9 : n ≤ 49) {φ : List Addr} {H : Hp} : ∀ {k : Nat} {xs : List Vl} {vs : List V} {ss : List Set} {r r' : Env} {σ : L2.St} {j : Nat}, ss = ((List.range k).map fun i => sOf (j + i)) → RVs G.K φ H xs vs → bindL ss xs r = some r' → j + k ≤ n → EnvR G n φ H r σ →
    (∀ i v, vs[i]? = some v → σ[j + i]? = some (some v)) → xs.length = k ∧ EnvR G n φ H r' σ
  | 0, [], vs, _, r, r', σ, j, rfl, R, h, _, E, _ => by cases h; exact ⟨rfl, E⟩
  | 0, _ :: _, vs, _, r, r', σ, j, rfl, R, h, _, E, _ => nomatch h
  | k + 1, [], vs, _, r, r', σ, j, rfl, R, h, _, E, _ => by
    rw [List.range_succ_eq_map] at h
    cases h
  | k + 1, x :: xs, vs, _, r, r', σ, j, rfl, R, h, hl, E, hs => by
    obtain ⟨v, ws, rfl, rx, R⟩ := R.inv_cons
    rw [List.range_succ_eq_map, List.map_cons, List.map_map] at h
    have h' : bindL ((List.range k).map ((fun i => sOf (j + i)) ∘ Nat.succ)) xs (sOf (j + 0) (some x) r) = some r' := h
    have e : ((List.range k).map ((fun i => sOf (j + i)) ∘ Nat.succ)) = (List.range k).map fun i => sOf (j + 1 + i) := by
      refine List.map_congr_left fun i _ => ?_
      show sOf (j + (i + 1)) = sOf (j + 1 + i)
      congr 1; omega
    rw [e] at h'
    have E1 := E.set (i := j) (x := x) (v := v) (by omega) h9 rx
    have hv := hs 0 v rfl
    have e2 : σ.set j (some v) = σ := by
      refine List.ext_getElem? fun i => ?_
      by_cases hi : i = j
      · subst hi; rw [List.getElem?_set_self (by rw [E.len]; omega)]; exact hv.symm
      · rw [List.getElem?_set_ne (Ne.symm hi)]
    rw [e2] at E1
    obtain ⟨l, E2⟩ := bindL_env h9 rfl R h' (by omega) E1 fun i w hw => by
      have := hs (i + 1) w (by simpa using hw)
      rw [← this]; congr 1; omega
    exact ⟨by simp [l], E2⟩
theorem env0_rel {n : Nat} {φ : List Addr} {H : Hp} {σ : L2.St} (h : σ.length = n) : EnvR G n φ H env0 σ := ⟨h, fun i x hx hi => by
  have : gOf i env0 = none := by
    have go : ∀ k, acc7 k (rep7 (rep7 (none : Option Vl))) = rep7 none := fun k => by unfold acc7; split <;> rfl
    have go2 : ∀ k, acc7 k (rep7 (none : Option Vl)) = none := fun k => by unfold acc7; split <;> rfl
    show acc7 (i % 7) (acc7 (i / 7) (rep7 (rep7 none))) = none
    rw [go, go2]
  rw [this] at hx; cases hx⟩
/-- the setters of the first k names -/
def parS (k : Nat) : List Set := (List.range k).map sOf
/-- how a body's end is a call's -/
theorem endB_post {n : Nat} {E : XK} {φ : List Addr} {H : Hp} {x : Rst} {Q : VK} (p : Post G (RVl G) E φ H (endB x) Q) : PostS G n (fun c d _ H' => E c d H') φ H x { nx := fun _ H' => Q .non H', rt := Q } := by
  cases x with
  | bad m => exact p
  | ex c v r η => exact fun φ' H' σ' cls d e S' _ x => p φ' H' cls d e S' x
  | ok f η => cases f with
    | nx r => exact fun φ' H' σ' e S' _ => p φ' H' .non e S' .non
    | rt v => exact fun φ' H' w e S' rv => p φ' H' w e S' rv
    | bk r => exact p.elim
    | ct r => exact p.elim
/-- what a def's text gives of its body -/
structure Bdy (P : Program) (w : World) (K : PySem.W.Frag) (mg : Str → Option Value) (base : Heap) (k : Nat) (f : Addr) (name qual : Str) (params : Arguments) (body : List Stmt) (scope : Scope) (dV kV doc pm cdv ct oc : Value) (an od : Option Addr) (osl : Array (Option Value)) (N ps : List Str) : Prop where
  lk : K.lookup f = some ⟨oc, od, .func (PySem.W.fnOf name qual params body scope dV kV doc pm an cdv ct), osl⟩
  cd : PySem.W.codeIn K cdv qual = true
  S : FnScope N ps scope
theorem fn_sound {P : Program} {w : World} {K : PySem.W.Frag} {mg : Str → Option Value} {base : Heap} {k : Nat} {f : Addr} {name qual : Str} {params : Arguments} {body : List Stmt} {scope : Scope} {dV kV doc pm cdv ct oc : Value} {an od : Option Addr} {osl : Array (Option Value)} {N ps : List Str} {b : EvS}
    (hP : P = G.P) (hw : w = G.w) (hK : K = G.K) (B : Bdy P w K mg base k f name qual params body scope dV kV doc pm cdv ct oc an od osl N ps) (h9 : N.length ≤ 49)
    (hb : ∀ A outer s H E, Room k (A.deeper (envOfC qual scope s.heap.objs.size f cdv)) → SSs (cxOf (L2.CX P w) P w K mg base N qual scope f cdv A outer s H E) G body b) :
    FnOk P w K mg base (L2.CX P w) (k + 1) f (PySem.W.fnOf name qual params body scope dV kV doc pm an cdv ct) ps (spF G ps.length (fnI (parS ps.length) b)) := by
  refine fn_of B.lk B.cd B.S (fun vs H Q E h => h.1) fun A outer s H vs Q E hr ⟨hl, φ, η, xs, S, R, p⟩ => ?_
  have tk : Takes (cxOf (L2.CX P w) P w K mg base N qual scope f cdv A outer s H E) (fun cls d _ H => E cls d H) := takes_of (E := E) rfl rfl rfl rfl
  refine ⟨_, hb A outer s H E hr _ tk, φ, η, ?_⟩
  have hpl : ps.length ≤ N.length := by have := congrArg List.length B.S.pre; rw [List.length_take] at this; omega
  have p : Post G (RVl G) E φ H (match bindL (parS ps.length) xs env0 with | some r => endB (b r η) | none => .bad 261) Q := p
  cases hr2 : bindL (parS ps.length) xs env0 with
  | none => rw [hr2] at p; exact p.elim
  | some r =>
    rw [hr2] at p
    have len : (L2.start N vs).length = N.length := by
      unfold L2.start
      rw [List.length_append, List.length_map, List.length_replicate]; omega
    obtain ⟨_, E2⟩ := bindL_env (n := N.length) h9 (k := ps.length) (j := 0) (σ := start N vs) (by unfold parS; refine List.map_congr_left fun i _ => ?_; rw [Nat.zero_add]) R hr2 (by omega) (env0_rel len) fun i v hv => by
      unfold L2.start
      have hi : i < vs.length := (List.getElem?_eq_some_iff.mp hv).1
      rw [Nat.zero_add, List.getElem?_append_left (by rw [List.length_map]; exact hi), List.getElem?_map, hv]; rfl
    exact ⟨r, S, E2, endB_post p⟩
theorem noLoc_rel {K : PySem.W.Frag} {φ φ' : List Addr} {H : Hp} : ∀ (n : Nat) {x : Vl} {v : V}, noLoc n x = true → RV K φ H x v → RV K φ' H x v
  | 0, _, _, h, _ => nomatch h
  | n + 1, x, v, h, r => by
    cases r with
    | non => exact .non
    | bl b => exact .bl b
    | int i => exact .int i
    | str s => exact .str s
    | @tup xs a vs hq hl hx =>
      have h' : xs.all (noLoc n) = true := h
      exact .tup hq hl fun i x v h1 h2 => noLoc_rel n (List.all_eq_true.mp h' x (List.mem_of_getElem? h1)) (hx i x v h1 h2)
    | fl _ _ _ => cases h
    | loc _ => cases h
theorem Sim.empty {H : Hp} : Sim G [] .nil H := ⟨rfl, List.nodup_nil, fun i a h => by simp at h⟩
theorem Sim.kept {φ φ' : List Addr} {η : He} {H H' : Hp} (S : Sim G φ η H) (e : Evo [] H φ' H') : Evo φ H φ H' ∧ Sim G φ η H' := by
  have ev : Evo φ H φ H' := ⟨List.prefix_refl φ, (fun a o h _ => e.old a o h (by simp)), (fun a m n => absurd m n), e.frz⟩
  refine ⟨ev, S.len, S.nd, fun i a h => ?_⟩
  obtain ⟨o, h1, h2⟩ := S.ob i a h
  refine ⟨o, h1, h2.evo ev S.trk ?_⟩
  obtain ⟨u, hu, _⟩ := h2.ntup
  rw [hu]; exact e.old a u hu (by simp)
theorem spP_spI {n : Nat} {ps : List Set} {b : EvS} {vs : List V} {H : Hp} {Q : VK} {E : XK} (h : spF G n (fnP ps b) vs H Q E) : spF G n (fnI ps b) vs H Q E := by
  obtain ⟨hl, φ, η, xs, S, R, p⟩ := h
  have p : Post G (RVl G) E φ H (match xs.all pur with | true => outP (fnI ps b xs .nil) η | false => .bad 264) Q := p
  cases hx : xs.all pur with
  | false => rw [hx] at p; exact p.elim
  | true =>
    rw [hx] at p
    have p : Post G (RVl G) E φ H (outP (fnI ps b xs .nil) η) Q := p
    refine ⟨hl, [], .nil, xs, Sim.empty, ⟨R.1, fun i x v h1 h2 => noLoc_rel 60 (List.all_eq_true.mp hx x (List.mem_of_getElem? h1)) (R.2 i x v h1 h2)⟩, ?_⟩
    cases hf : fnI ps b xs .nil with
    | bad m => rw [hf] at p; exact p
    | ok v η2 =>
      rw [hf] at p
      have p : Post G (RVl G) E φ H (match pur v with | true => .ok v η | false => .bad 265) Q := p
      cases hv : pur v with
      | false => rw [hv] at p; exact p.elim
      | true =>
        rw [hv] at p
        intro φ' H' w e S' rv
        obtain ⟨ev, S2⟩ := S.kept e
        exact p φ H' w ev S2 (noLoc_rel 60 hv rv)
    | ex c as η2 =>
      rw [hf] at p
      have p : Post G (RVl G) E φ H (match as.all pur with | true => .ex c as η | false => .bad 266) Q := p
      cases hv : as.all pur with
      | false => rw [hv] at p; exact p.elim
      | true =>
        rw [hv] at p
        intro φ' H' cls d e S' xr
        obtain ⟨ev, S2⟩ := S.kept e
        refine p φ H' cls d ev S2 ⟨xr.1, ?_⟩
        cases as with
        | nil => trivial
        | cons x r =>
          obtain ⟨dx, v, h1, h2, h3⟩ := xr.2
          exact ⟨dx, v, h1, h2, noLoc_rel 60 (List.all_eq_true.mp hv x List.mem_cons_self) h3⟩
theorem fn_soundP {P : Program} {w : World} {K : PySem.W.Frag} {mg : Str → Option Value} {base : Heap} {k : Nat} {f : Addr} {fd : FuncData} {ps : List Str} {b : EvS}
    (h : FnOk P w K mg base (L2.CX P w) k f fd ps (spF G ps.length (fnI (parS ps.length) b))) : FnOk P w K mg base (L2.CX P w) k f fd ps (spF G ps.length (fnP (parS ps.length) b)) := h.imp fun _ _ _ _ q => spP_spI q
end
section
variable {X : Cx} {G : Gd}
/-- a def's name, its promise; k: the room that it wants -/
structure FnAt (X : Cx) (G : Gd) (x : Str) (n k : Nat) (F : FnF) : Prop where
  g : Gl X x
  d : (x == ("__debug__" : Str)) = false
  ok : ∃ f fd ps, X.mg x = some (.ref f) ∧ PySem.W.keepIn X.K (.ref f) = true ∧ Binds X.K fd ps [] ∧ ps.length = n ∧ FnOk X.prog X.w X.K X.mg X.base (L2.CX X.prog X.w) k f fd ps (spF G n F)
theorem s_call (O : XOk X G) {x : Str} {n k : Nat} {F : FnF} {e : Expr} {es : List Expr} {s : EvQ} {np pos : Pos} (FA : FnAt X G x n k F) (hr : Room k X.A) (hn : NoStar (e :: es)) (hl : (e :: es).length = n) (ha : SA X G (e :: es) s) : SE X G (.Call (.Name x np) (e :: es) [] pos) (eCall F s) := fun W tk => by
  obtain ⟨f, fd, ps, hm, hk, hb, hps, ok⟩ := FA.ok
  refine peWeak (pe_callS (E := WE W) ok hr FA.g hm hk hb (fun σ => passAt tk σ) (ha W tk) FA.d (starEach_cons (hn e List.mem_cons_self)) (NoStar.any fun e' m => hn e' (List.mem_cons_of_mem _ m))) fun σ H Q q => ?_
  refine (rd_bind (R := RAn G (e :: es).length) (k := fun vs _ h => F vs h) q).imp ?_
  rintro vs H1 ⟨φ1, η1, r1, xs, S1, E1, ⟨R1, hk⟩, p1⟩
  exact ⟨by rw [← R1.1, hk]; exact hl, φ1, η1, xs, S1, R1, p1⟩
theorem s_call0 (O : XOk X G) {x : Str} {k : Nat} {F : FnF} {np pos : Pos} (FA : FnAt X G x 0 k F) (hr : Room k X.A) : SE X G (.Call (.Name x np) [] [] pos) (eCall F qNil) := fun W tk => by
  obtain ⟨f, fd, ps, hm, hk, hb, hps, ok⟩ := FA.ok
  refine ⟨fun pins s σ H Q I ⟨φ, η, r, S, E, p⟩ => wpAny_Call_Name_kw (ld_glob I FA.g hm ?_ FA.d)⟩
  exact PySem.W.callWith_K0 I.kIn hk (run_fnS (us := []) (vs := []) ok hr hb (passAt (W := W) tk σ) I .nil ⟨rfl, φ, η, [], S, RVs.nil, p⟩)
end
end FP
end
section
namespace FP
open PySem PySem.Spec PyProof.Rows L2 PySem.SeqAt

section
variable {X : Cx} {G : Gd}
def plOf (o : Expr) (env : PySem.Env) : Sem Bool := do return (← importBound o env).getD true
theorem meth_eq {o : Expr} {m : Str} {es : List Expr} {env : PySem.Env} {apos pos : Pos} (hb : plainBase o = true) (hn : NoStar es) (hl : es.length < 30) (hline : (apos.endLine == pos.line) = true) :
    eval (.Call (.Attribute o m apos) es [] pos) env = (do
      let ov ← eval o env
      standAt apos.atName
      let (f, first) ← holding [ov] (getMethod ov m (plOf o env))
      callWith pos f first (backTo pos (starEach es env)) (backToKw pos (keywordEach [] env))) := by
  have hform : methodCallForm (es.length + ([] : List Keyword).length) (backTo pos (starEach es env)) (backToKw pos (keywordEach [] env)) = true := by
    unfold methodCallForm
    rw [few_of hn]
    simp only [Bool.true_and, List.length_nil, Nat.add_zero, Bool.and_eq_true, decide_eq_true_eq]
    exact ⟨rfl, hl⟩
  have hpos : methodCallPos true o env apos pos = pure pos := by
    unfold methodCallPos
    rw [hline]; rfl
  rw [arm_eval_Call, base_of hb]
  unfold methodCall
  rw [hform, hpos]
  rfl
/-- a method's promise at a class -/
structure MtAt (X : Cx) (G : Gd) (C : Addr) (m : Str) (n k : Nat) (F : FnF) : Prop where
  ok : ∃ f fd ps, Meth X.K C m f ∧ Binds X.K fd ps [] ∧ ps.length = n ∧ FnOk X.prog X.w X.K X.mg X.base (L2.CX X.prog X.w) k f fd ps (spF G n F)
def tMethF (X : Cx) (G : Gd) (m : Str) (W : WX) (n k : Nat) (ta : TE) (t : TA) : TE := fun σ H Q => ta σ H fun x H1 => ∃ a C dx fs F, x = .ref a ∧ H1 a = some (.ins C dx fs) ∧ Cls X.K C ∧ fs.lookup m = none ∧ MtAt X G C m n k F ∧ t σ H1 fun vs H2 => spF G n F (x :: vs) H2 Q (WE W σ)
theorem pe_methF {W : WX} (tk : Takes X W) {o e : Expr} {es : List Expr} {m : Str} {n k : Nat} {ta : TE} {t : TA} {apos pos : Pos} (hr : Room k X.A) (ho : PE X o ta) (ha : PA X (e :: es) t) (hb : plainBase o = true) (hn : NoStar (e :: es)) (hl : (e :: es).length < 30) (hline : (apos.endLine == pos.line) = true) :
    PE X (.Call (.Attribute o m apos) (e :: es) [] pos) (tMethF X G m W n k ta t) := by
  refine ⟨fun pins s σ H Q I h => ?_⟩
  refine PySem.W.methodCall_KW (pl := plOf o X.env) (thn (ho.run pins s σ H _ I h) fun u s1 ⟨x, H1, I1, rx, a, C, dx, fs, F, ex, ea, c, l, M, q⟩ => ?_) (meth_eq hb hn hl hline)
  subst ex
  obtain rfl : u = Value.ref a := rx
  obtain ⟨f, fd, ps, hm, hbd, hps, ok⟩ := M.ok
  refine getmeth_ok I1 ea c hm l ?_
  refine PySem.W.callWith_K (first := [.ref a]) (h₀ := X.base) I.ok.mod.kin hm.kp (thn (ha.run pos pins s1 σ H1 _ I1 q) fun us s2 ⟨vs, H2, I2, r, q2⟩ => ⟨I2.kIn, ?_⟩) (starEach_cons (hn e List.mem_cons_self)) (NoStar.any fun e' m => hn e' (List.mem_cons_of_mem _ m))
  exact run_fnS (us := .ref a :: us) (vs := .ref a :: vs) ok hr hbd (passAt (W := W) tk σ) I2 (.cons rfl r) q2
theorem pe_methF0 {W : WX} (tk : Takes X W) {o : Expr} {m : Str} {n k : Nat} {ta : TE} {apos pos : Pos} (hr : Room k X.A) (ho : PE X o ta) (hb : plainBase o = true) (hline : (apos.endLine == pos.line) = true) :
    PE X (.Call (.Attribute o m apos) [] [] pos) (tMethF X G m W n k ta tNil) := by
  refine ⟨fun pins s σ H Q I h => ?_⟩
  refine PySem.W.methodCall_KW (pl := plOf o X.env) (thn (ho.run pins s σ H _ I h) fun u s1 ⟨x, H1, I1, rx, a, C, dx, fs, F, ex, ea, c, l, M, q⟩ => ?_) (meth_eq hb (fun e m => nomatch m) (by decide) hline)
  subst ex
  obtain rfl : u = Value.ref a := rx
  obtain ⟨f, fd, ps, hm, hbd, hps, ok⟩ := M.ok
  refine getmeth_ok I1 ea c hm l ?_
  exact PySem.W.callWith_K0 (first := [.ref a]) I1.kIn hm.kp (run_fnS (us := [.ref a]) (vs := [.ref a]) ok hr hbd (passAt (W := W) tk σ) I1 (.cons rfl .nil) q)
theorem no_field {φ : List Addr} {H : Hp} {C f : Addr} {m : Str} (hm : Meth G.K C m f) : ∀ {fs : List (Nat × Vl)} {ws : List (Str × V)}, RFs G φ H C fs ws → ws.lookup m = none
  | [], [], _ => rfl
  | [], _ :: _, R => by have := R.1; simp at this
  | _ :: _, [], R => by have := R.1; simp at this
  | (g, y) :: fs, (k, w) :: ws, R => by
    obtain ⟨_, h2, _⟩ := R.2 0 _ _ rfl rfl
    have tl : RFs G φ H C fs ws := ⟨by simpa using R.1, fun i p q a b => R.2 (i + 1) p q (by simpa using a) (by simpa using b)⟩
    have h2' : PySem.W.findIn G.K (.ref C) k = some none := h2
    have em : (m == k) = false := beq_eq_false_iff_ne.mpr fun z => by
      subst z
      rw [hm.at_] at h2'; cases h2'
    rw [List.lookup_cons, em]
    exact no_field hm tl
/-- a method's promises, class by class -/
def MtsAt (X : Cx) (G : Gd) (m : Str) (n k : Nat) (fs : List (Nat × FnF)) : Prop := ∀ c C F, pick c fs = some F → G.clss[c]? = some C → MtAt X G C m n k F
theorem meth_reads (O : XOk X G) {W : WX} {m : Str} {n k : Nat} {fs : List (Nat × FnF)} {o : EvE} {s : EvQ} {l : Nat} (M : MtsAt X G m n k fs) (hl : l + 1 = n) {σ : L2.St} {H : Hp} {Q : V → Hp → Prop}
    (q : rd G X.N.length (RVl G) W (eMeth fs o s) σ H Q) :
    rd G X.N.length (RVl G) W o σ H fun x H1 => ∃ a C dx ws F, x = .ref a ∧ H1 a = some (.ins C dx ws) ∧ Cls X.K C ∧ ws.lookup m = none ∧ MtAt X G C m n k F ∧ rd G X.N.length (RAn G l) W s σ H1 fun vs H2 => spF G n F (x :: vs) H2 Q (WE W σ) := by
  refine (rd_bind (R := RVl G) (k := fun ov r h => match insOf h ov with | some (.ins c _) => (match pick c fs with | some f => (s r h).bind fun vs h => f (ov :: vs) h | none => .bad 236) | _ => .bad 238) q).imp ?_
  rintro v H1 ⟨φ1, η1, r1, x, S1, E1, R1, p1⟩
  cases R1 with
  | @loc q a hn =>
    have p1 : Post G (RVl G) (fun c d H' => W c d σ H') φ1 H1 (match η1.get q with | some (.ins c _) => (match pick c fs with | some f => (s r1 η1).bind fun vs h => f (.loc q :: vs) h | none => .bad 236) | _ => .bad 238) Q := p1
    cases hg : η1.get q with
    | none => simp only [hg] at p1; exact p1.elim
    | some ob =>
      cases ob with
      | lst _ => simp only [hg] at p1; exact p1.elim
      | dic _ _ => simp only [hg] at p1; exact p1.elim
      | ins c fl =>
        simp only [hg] at p1
        cases hp : pick c fs with
        | none => simp only [hp] at p1; exact p1.elim
        | some F =>
          simp only [hp] at p1
          obtain ⟨C, dx, ws, hc, hH, R⟩ := insAt S1 hn hg
          have mt := M c C F hp hc
          obtain ⟨f, fd, ps, hm, _⟩ := mt.ok
          refine ⟨a, C, dx, ws, F, rfl, hH, by rw [O.K]; exact G.cls_ok c C hc, no_field (by rw [← O.K]; exact hm) R, mt, ?_⟩
          refine (post_bind (R := RAn G l) (fa := s) (k := fun vs h => F (.loc q :: vs) h) S1 E1 p1).imp ?_
          rintro us H2 ⟨φ2, η2, xs, ev, S2, E2, ⟨R2, hk⟩, p2⟩
          exact ⟨by rw [List.length_cons, ← R2.1, hk]; exact hl, φ2, η2, .loc q :: xs, S2, RVs.cons (.loc (ev.at hn)) R2, p2⟩
  | _ => exact p1.elim
theorem s_meth (O : XOk X G) {o e : Expr} {es : List Expr} {m : Str} {n k : Nat} {fs : List (Nat × FnF)} {f : EvE} {s : EvQ} {apos pos : Pos} (M : MtsAt X G m n k fs) (hr : Room k X.A) (ho : SE X G o f) (ha : SA X G (e :: es) s) (hb : plainBase o = true) (hn : NoStar (e :: es)) (hl : (e :: es).length < 30) (hlen : (e :: es).length + 1 = n) (hline : (apos.endLine == pos.line) = true) :
    SE X G (.Call (.Attribute o m apos) (e :: es) [] pos) (eMeth fs f s) := fun W tk =>
  peWeak (pe_methF (G := G) (n := n) tk hr (ho W tk) (ha W tk) hb hn hl hline) fun σ H Q q => meth_reads O M hlen q
theorem s_meth0 (O : XOk X G) {o : Expr} {m : Str} {k : Nat} {fs : List (Nat × FnF)} {f : EvE} {apos pos : Pos} (M : MtsAt X G m 1 k fs) (hr : Room k X.A) (ho : SE X G o f) (hb : plainBase o = true) (hline : (apos.endLine == pos.line) = true) :
    SE X G (.Call (.Attribute o m apos) [] [] pos) (eMeth fs f qNil) := fun W tk => by
  refine peWeak (pe_methF0 (G := G) (n := 1) tk hr (ho W tk) hb hline) fun σ H Q q => ?_
  refine (meth_reads (l := 0) O M rfl q).imp ?_
  rintro v H1 ⟨a, C, dx, ws, F, e1, e2, e3, e4, e5, q2⟩
  refine ⟨a, C, dx, ws, F, e1, e2, e3, e4, e5, ?_⟩
  obtain ⟨φ, η, r, S, E, p⟩ := q2
  exact p φ H1 [] Evo.refl S ⟨RVs.nil, rfl⟩

structure MkAt (X : Cx) (G : Gd) (x : Str) (c n k : Nat) (F : FnF) : Prop where
  g : Gl X x
  d : (x == ("__debug__" : Str)) = false
  ok : ∃ C f fd ps, X.mg x = some (.ref C) ∧ G.clss[c]? = some C ∧ Mk X.K C f ∧ Binds X.K fd ps [] ∧ ps.length = n ∧ FnOk X.prog X.w X.K X.mg X.base (L2.CX X.prog X.w) k f fd ps (spF G n F)
theorem run_new {W : WX} (tk : Takes X W) {pins : List (Addr × Obj)} {σ : L2.St} {H : Hp} {s : Shared} {Q : VK} {us : List Value} {vs : List V} {C f : Addr} {fd : FuncData} {ps : List Str} {sp : Sp} {k : Nat} (M : Mk X.K C f) (F : FnOk X.prog X.w X.K X.mg X.base (L2.CX X.prog X.w) k f fd ps sp) (hr : Room (k + 1) X.A) (hb : Binds X.K fd ps [])
    (I : Inv X pins σ H s) (r : Vals vs us) (h : ∀ x dx, H x = none → H dx = none → dx ≠ x → sp (.ref x :: vs) (upd (upd H dx (.own x)) x (.ins C dx [])) (fun v H2 => v = .non ∧ Q (.ref x) H2) (WE W σ)) :
    wpAny (model X.prog X.w) X.A (call (.ref C) us) (EP X pins σ Q) X.xe s := by
  have hq := h (s.heap.objs.size + 1) s.heap.objs.size (I.hok.fresh (Nat.le_succ _)) (I.hok.fresh (Nat.le_refl _)) (Nat.ne_of_lt (Nat.lt_succ_self _))
  have I2 := Inv.made (C := C) I
  have r2 : Vals (V.ref (s.heap.objs.size + 1) :: vs) (Value.ref (s.heap.objs.size + 1) :: us) := .cons rfl r
  have hl : (Value.ref (s.heap.objs.size + 1) :: us).length = ps.length := by
    rw [← F.len _ _ _ _ hq]; exact r2.length.symm
  have bd := hb _ (Value.ref (s.heap.objs.size + 1) :: us) I2.kIn (by rw [List.append_nil]; exact hl)
  rw [List.append_nil] at bd
  refine wpAny_call (make_map (f := f) I.kIn M.makes M.init (beq_iff_eq.mp M.fn) (codeAny_mono (F.run _ X.stack _ _ ⟨Value.ref (s.heap.objs.size + 1) :: us, []⟩ _ _ _ (WE W σ) (hr.make C us []) (I2.env0.make C us []) bd r2 hq) fun res s' hq' => ?_))
  cases res with
  | error e => exact passAt (W := W) tk σ pins _ _ e s' I2 hq'
  | ok fl =>
    cases fl with
    | ret u =>
      obtain ⟨v, H', I3, rv, ev, q3⟩ := I2.after hq'
      subst ev
      exact ⟨rv, V.ref (s.heap.objs.size + 1), H', I3, rfl, q3⟩
    | next => exact hq'.elim
    | brk => exact hq'.elim
    | cont => exact hq'.elim
theorem s_make (O : XOk X G) {x : Str} {c n k : Nat} {F : FnF} {e : Expr} {es : List Expr} {s : EvQ} {np pos : Pos} (MA : MkAt X G x c n k F) (hr : Room (k + 1) X.A) (hn : NoStar (e :: es)) (hl : (e :: es).length + 1 = n) (ha : SA X G (e :: es) s) : SE X G (.Call (.Name x np) (e :: es) [] pos) (eMk c F s) := fun W tk => by
  obtain ⟨C, f, fd, ps, hm, hc, M, hb, hps, ok⟩ := MA.ok
  refine ⟨fun pins s0 σ H Q I h => wpAny_Call_Name_kw (ld_glob I MA.g hm ?_ MA.d)⟩
  refine PySem.W.callWith_K (h₀ := X.base) I.ok.mod.kin M.kp (thn ((ha W tk).run pos pins s0 σ H _ I (rd_bind (R := RAn G (e :: es).length) (R' := RVl G) (fa := s) (k := fun vs _ h => h.new (.ins c []) fun m h => (F (.loc m :: vs) h).bind fun v h => match v with | .non => Rs.ok (Vl.loc m) h | _ => .bad 239) h)) fun us s1 ⟨vs, H1, I1, r, q⟩ => ⟨I1.kIn, ?_⟩) (starEach_cons (hn e List.mem_cons_self)) (NoStar.any fun e' m => hn e' (List.mem_cons_of_mem _ m))
  refine run_new tk M ok hr hb I1 r fun p dx hp hdx hne => ?_
  obtain ⟨φ1, η1, r1, xs, S1, E1, ⟨R1, hk⟩, p1⟩ := q
  rw [He.new_eq] at p1
  have h2 : (upd H1 dx (.own p)) p = none := by rw [upd_ne (Ne.symm hne)]; exact hp
  have e1 : Evo φ1 H1 φ1 (upd H1 dx (.own p)) := Evo.upd hdx
  have e2 : Evo φ1 (upd H1 dx (.own p)) φ1 (upd (upd H1 dx (.own p)) p (.ins C dx [])) := Evo.upd h2
  have S2 := (S1.upd hdx (o := .own p)).upd h2 (o := .ins C dx [])
  have e3 : Evo φ1 H1 (φ1 ++ [p]) (upd (upd H1 dx (.own p)) p (.ins C dx [])) := (e1.trans e2).add hp
  have R2 := R1.evo e3 S1.trk
  have S3 := S2.new (o := .ins c []) (S1.notIn hp) ⟨C, dx, [], hc, upd_same, rfl, fun i p q h => by simp at h⟩
  have at' : (φ1 ++ [p])[η1.n]? = some p := by
    rw [List.getElem?_append_right (by rw [S1.len]; exact Nat.le_refl _), S1.len, Nat.sub_self]; rfl
  refine ⟨by rw [List.length_cons, ← R1.1, hk]; exact hl, φ1 ++ [p], _, .loc η1.n :: xs, S3, RVs.cons (.loc at') R2, ?_⟩
  have p2 : Post G (RVl G) (fun c d H' => W c d σ H') φ1 H1 ((F (.loc η1.n :: xs) ⟨η1.n + 1, η1.t.set η1.n (.ins c [])⟩).bind fun v h => match v with | .non => Rs.ok (Vl.loc η1.n) h | _ => .bad 239) Q := p1
  refine ((Post.bind (R := RVl G) (Post.from e3 p2)).imp ?_)
  rintro v H4 ⟨φ4, η4, y, ev4, S4, R4, p4⟩
  cases R4 with
  | non => exact ⟨rfl, post_ok p4 S4 (.loc (ev4.at at'))⟩
  | _ => exact p4.elim
end
end FP
end
section
namespace FP
open PySem PySem.Spec PyProof.Rows L2 PySem.SeqAt

section
variable {X : Cx} {G : Gd}
/-- an own exception class without an own __init__ -/
structure XcAt (X : Cx) (G : Gd) (x : Str) (c : Nat) : Prop where
  g : Gl X x
  d : (x == ("__debug__" : Str)) = false
  ok : ∃ C bmB B newId initId, ExcBaseFacts B newId initId bmB ∧ PySem.W.excIn X.K C bmB newId = true ∧ X.mg x = some (.ref C) ∧ PySem.W.keepIn X.K (.ref C) = true ∧ Raises X (.ref C) ∧ G.excs[c]? = some C
theorem pmk_none {C : Addr} {bmB : List Value} {B newId initId : String} {x : Str} {p pos : Pos} (F : ExcBaseFacts B newId initId bmB) (q : PySem.W.excIn X.K C bmB newId = true) (gC : X.mg x = some (.ref C)) (kC : PySem.W.keepIn X.K (.ref C) = true) (r : Raises X (.ref C)) (hg : Gl X x)
    (hdb : (x == ("__debug__" : Str)) = false) : PMk X (.Call (.Name x p) [] [] pos) (fun _ H Q => Q (.ref C) none H) := by
  intro pins s σ H Q I h
  refine wpAny_Call_Name_kw (ld_glob I hg gC ?_ hdb)
  refine PySem.W.callWith_K0 I.kIn kC ?_
  show wpAny _ _ (call (.ref C) []) _ _ _
  obtain ⟨bm, N, nm, qn, bs, hdct, sn, sub, ab, col, dd, k0, k1, k2, k3, k5, mN, hC, hN, hni, T⟩ := exc_obj I.kIn q
  refine wpAny_call_exc_subT F T hC hN hni (fun h' e hm => ?_) (Nat.zero_le _)
  exact mk_of I hm r h (I.hok.gone hm.new)
theorem s_raise (O : XOk X G) {x : Str} {c : Nat} {np p pos : Pos} (A : XcAt X G x c) : SS X G (.Raise (some (.Call (.Name x np) [] [] p)) none pos) (sRaise c) := fun W tk => by
  obtain ⟨C, bmB, B, newId, initId, F, q, gC, kC, r, hc⟩ := A.ok
  refine psWeak (ps_raise O.calm tk (pmk_none F q gC kC r A.g A.d)) fun D σ H ⟨φ, η, r, S, E, p⟩ => ?_
  exact p φ H σ (.ref C) none Evo.refl S E ⟨⟨C, hc, rfl⟩, trivial⟩
/-- the handlers' classes tell exceptions apart as numbers do -/
def Tells (G : Gd) (c' : Nat) (u : Value) : Prop := ∀ c C, G.excs[c]? = some C → PySem.W.exmOne G.K (.ref C) u = some (Nat.beq c c')
inductive Hds (X : Cx) (G : Gd) : List ExceptHandler → List (Nat × Option Set × EvS) → Prop where
  | nil : Hds X G [] []
  | cons {x : Str} {u : Value} {c : Nat} {b₀ : Stmt} {suite : List Stmt} {f : EvS} {np pos : Pos} {hs : List ExceptHandler} {fs : List (Nat × Option Set × EvS)} (hc : Names X x u) (ht : Tells G c u)
      (hb : ∀ a pn, PSs (X.suite a pn) (b₀ :: suite) (rs G X.N.length W0 f)) (t : Hds X G hs fs) : Hds X G (.ExceptHandler (some (.Name x np)) none (b₀ :: suite) pos :: hs) ((c, none, f) :: fs)
theorem hds_ok (O : XOk X G) {hs : List ExceptHandler} {fs : List (Nat × Option Set × EvS)} (h : Hds X G hs fs) : ∃ l, HdsOk X hs l ∧ ∀ (Wout : WX) (D : Ends) (c : Nat) (as : List Vl) (r : Env) (η : He) (φ : List Addr) (H : Hp) (σ : L2.St) (cls : Value) (d : Option Addr), Sim G φ η H → EnvR G X.N.length φ H r σ → ExR G φ H c as cls d →
    (∀ (φ0 : List Addr) (H0 : Hp), Evo φ0 H0 φ H → PostS G X.N.length Wout φ0 H0 (hnd c as r η fs) D → wMany X.K Wout D l cls d σ H) := by
  induction h with
  | nil => exact ⟨[], .nil, fun Wout D c as r η φ H σ cls d S E x φ0 H0 e p => p φ H σ cls d e S E x⟩
  | @cons x u c' b₀ suite f np pos hs fs hc ht hb t ih =>
    obtain ⟨l, h1, h2⟩ := ih
    refine ⟨(u, fun _ _ _ => rs G X.N.length W0 f) :: l, .cons hc (fun a oe cls d pn _ _ => hb a ((a, oe) :: pn)) h1, fun Wout D c as r η φ H σ cls d S E x φ0 H0 e p => ?_⟩
    obtain ⟨⟨C, hC, ecls⟩, xr⟩ := x
    have p : PostS G X.N.length Wout φ0 H0 (match Nat.beq c c' with | true => (f r η).noX | false => hnd c as r η fs) D := p
    refine ⟨Nat.beq c c', by rw [ecls, O.K]; exact ht c C hC, fun hb2 a ha => ?_, fun hb2 => ?_⟩
    · rw [hb2] at p
      refine ⟨φ, η, r, S, E, ?_⟩
      have p2 : PostS G X.N.length Wout φ H ((f r η).noX) D := PostS.from e p
      cases hf : f r η with
      | bad m => rw [hf] at p2; exact p2
      | ok fl η' => rw [hf] at p2; exact p2
      | ex c v r' η' => rw [hf] at p2; exact p2.elim
    · rw [hb2] at p
      exact h2 Wout D c as r η φ H σ cls d S E ⟨⟨C, hC, ecls⟩, xr⟩ φ0 H0 e p
theorem s_try (O : XOk X G) (hs : X.stack = X.env :: X.outer) (hf : X.env.frame = some X.env.locals) {body : List Stmt} {h₀ : ExceptHandler} {hds : List ExceptHandler} {fs : List (Nat × Option Set × EvS)} {b : EvS} {pos : Pos}
    (hb : ∀ pn xe, PassesOwn (model X.prog X.w) X.A X.env xe → SSs (X.tr pn xe) G body b) (hh : Hds X G (h₀ :: hds) fs) : SS X G (.Try body (h₀ :: hds) [] [] pos) (sTry b fs) := fun W tk => by
  obtain ⟨l, h1, h2⟩ := hds_ok O hh
  refine psWeak (ps_try_many (tb := fun W => rs G X.N.length W b) hs hf tk (fun W pn xe tk' hp => hb pn xe hp W tk') h1) fun D σ H ⟨φ, η, r, S, E, p⟩ => ?_
  refine ⟨φ, η, r, S, E, ?_⟩
  have p : PostS G X.N.length W φ H (match b r η with | .ok f h => .ok f h | .ex c v r h => hnd c v r h fs | .bad n => .bad n) D := p
  cases hx : b r η with
  | bad m => rw [hx] at p; exact p
  | ok f η' => rw [hx] at p; exact p
  | ex c as r' η' =>
    rw [hx] at p
    exact fun φ' H' σ' cls d e S' E' xr => h2 W D c as r' η' φ' H' σ' cls d S' E' xr φ H e p
/-- what a suite may do: give a text, or None, back -/
theorem suite_ret {e : Expr} {f : EvE} {pos : Pos} {a : Addr} {pn : List (Addr × Obj)} (h : SE (X.suite a pn) G e f) : PSs (X.suite a pn) [.Return (some e) pos] (rs G X.N.length W0 (sSeq [sRet f])) := by
  have tk : Takes (X.suite a pn) W0 := fun u s' ⟨a, B, sI, pins, σ, H, cls, d, e, I, nb, up, sky, na, os, ag, w⟩ => w
  exact ss_cons (s_ret h) ss_nil W0 tk
end
end FP
end
section
namespace FP
open PySem PySem.Spec PyProof.Rows L2 PySem.SeqAt

section
variable {X : Cx} {G : Gd}
theorem s_par (O : XOk X G) {i j : Nat} {x y : Str} {a b : Expr} {f : EvQ} {px py pt pt2 pos : Pos} {kt k2 : Nat} (hi : X.N[i]? = some x) (hj : X.N[j]? = some y) (hij : i ≠ j) (hx : X.env.scope.names.lookup x = some .local) (hy : X.env.scope.names.lookup y = some .local)
    (ha : SA X G [a, b] f) (hw : swappedStores [.Tuple [.Name x px, .Name y py] kt pt] (.Tuple [a, b] k2 pt2) X.env = pure (some [x, y])) :
    SS X G (.Assign [.Tuple [.Name x px, .Name y py] kt pt] (.Tuple [a, b] k2 pt2) pos) (sPar [sOf i, sOf j] f) := fun W tk => by
  have li : i < X.N.length := (List.getElem?_eq_some_iff.mp hi).1
  have lj : j < X.N.length := (List.getElem?_eq_some_iff.mp hj).1
  refine psWeak (ps_par O.calm O.nd hi hj hij hx hy (ha W tk) hw rfl) fun D σ H q => ?_
  refine (rs_toS (R := RAn G 2) (k := fun vs r h => match parL [sOf i, sOf j] vs r with | some r => .ok (.nx r) h | none => .bad 252) q).imp ?_
  rintro vs H1 ⟨φ1, η1, r1, xs, S1, E1, ⟨R1, hk⟩, p1⟩
  match xs, hk, R1, p1 with
  | [u, w], _, R1, p1 =>
    obtain ⟨v1, _, rfl, ru, R1⟩ := R1.inv_cons
    obtain ⟨v2, _, rfl, rw', R1⟩ := R1.inv_cons
    cases R1.inv_nil
    exact ⟨v1, v2, rfl, p1 φ1 H1 _ Evo.refl S1 ((E1.set li O.few ru).set lj O.few rw')⟩
theorem s_par3 (O : XOk X G) {i j l : Nat} {x y z : Str} {a b c : Expr} {f : EvQ} {px py pz pt pt2 pos : Pos} {kt k2 : Nat} (hi : X.N[i]? = some x) (hj : X.N[j]? = some y) (hl : X.N[l]? = some z) (hij : i ≠ j) (hil : i ≠ l) (hjl : j ≠ l)
    (hx : X.env.scope.names.lookup x = some .local) (hy : X.env.scope.names.lookup y = some .local) (hz : X.env.scope.names.lookup z = some .local) (ha : SA X G [a, b, c] f)
    (hw : swappedStores [.Tuple [.Name x px, .Name y py, .Name z pz] kt pt] (.Tuple [a, b, c] k2 pt2) X.env = pure (some [x, y, z])) :
    SS X G (.Assign [.Tuple [.Name x px, .Name y py, .Name z pz] kt pt] (.Tuple [a, b, c] k2 pt2) pos) (sPar [sOf i, sOf j, sOf l] f) := fun W tk => by
  have li : i < X.N.length := (List.getElem?_eq_some_iff.mp hi).1
  have lj : j < X.N.length := (List.getElem?_eq_some_iff.mp hj).1
  have ll : l < X.N.length := (List.getElem?_eq_some_iff.mp hl).1
  refine psWeak (ps_par3 O.calm O.nd hi hj hl hij hil hjl hx hy hz (ha W tk) hw rfl) fun D σ H q => ?_
  refine (rs_toS (R := RAn G 3) (k := fun vs r h => match parL [sOf i, sOf j, sOf l] vs r with | some r => .ok (.nx r) h | none => .bad 252) q).imp ?_
  rintro vs H1 ⟨φ1, η1, r1, xs, S1, E1, ⟨R1, hk⟩, p1⟩
  match xs, hk, R1, p1 with
  | [u, w, t], _, R1, p1 =>
    obtain ⟨v1, _, rfl, ru, R1⟩ := R1.inv_cons
    obtain ⟨v2, _, rfl, rw', R1⟩ := R1.inv_cons
    obtain ⟨v3, _, rfl, rt, R1⟩ := R1.inv_cons
    cases R1.inv_nil
    exact ⟨v1, v2, v3, rfl, p1 φ1 H1 _ Evo.refl S1 (((E1.set li O.few ru).set lj O.few rw').set ll O.few rt)⟩

theorem walk_rngC {lo c : Int} {n : Nat} : Walk G (RVl G) (Itc lo c n) fun i φ H k => i ≤ n ∧ k = .rng (lo + (i : Nat) * c) c (n - i) := by
  have w0 : Walk0 G (RVl G) (Itc lo c n) fun i φ H k => i ≤ n ∧ k = .rng (lo + (i : Nat) * c) c (n - i) := {
    evo := fun i φ H φ' H' c h t e => h
    stop := fun i φ η H k ⟨h, ec⟩ S e => by
      subst ec
      cases hm : n - i with
      | zero => show n ≤ i; omega
      | succ m =>
        rw [hm] at e
        have e' : (iadd (lo + (i : Nat) * c) c fun l2 => Nx.item (.int (lo + (i : Nat) * c)) (.rng l2 c m)) = .stop := e
        rw [iadd_eq] at e'; cases e'
    item := fun i φ η H k v k' ⟨h, ec⟩ S e => by
      subst ec
      cases hm : n - i with
      | zero => rw [hm] at e; cases e
      | succ m =>
        rw [hm] at e
        have e' : (iadd (lo + (i : Nat) * c) c fun l2 => Nx.item (.int (lo + (i : Nat) * c)) (.rng l2 c m)) = .item v k' := e
        rw [iadd_eq] at e'
        cases e'
        refine ⟨by show i < n; omega, fun y H' ⟨e1, e2⟩ => ?_⟩
        subst e1; subst e2
        refine ⟨Evo.refl, S, .int _, by omega, ?_⟩
        have h1 : lo + (i : Int) * c + c = lo + ((i + 1 : Nat) : Int) * c := by
          rw [Int.natCast_add, Int.add_mul, Int.natCast_one, Int.one_mul, Int.add_assoc]
        rw [h1]
        congr 1
        omega }
  exact { w0 with away := fun D => ⟨_, w0, ⟨fun i φ H c o u h _ _ _ => h⟩, fun φ H c h _ => h⟩ }
theorem si_rng3 (O : XOk X G) {tg a b c : Expr} {f g k : EvE} {np pos : Pos} (B : Bn X "range" (.type "range")) (ha : SE X G a f) (hb : SE X G b g) (hc : SE X G c k) (hn : ∀ v p, a ≠ .Starred v p) (hn' : ∀ v p, b ≠ .Starred v p) (hn2 : ∀ v p, c ≠ .Starred v p) : SI X G (RVl G) tg (.Call (.Name "range" np) [a, b, c] [] pos) (FP.iRng3 f g k) := fun W tk => by
  refine piWeak (pi_range3 B.g B.m (pa_cons (ha W tk) (pa_cons (hb W tk) (pa_cons (hc W tk) pa_nil (starEach_cons hn2)) (starEach_cons hn')) (starEach_cons hn)) (starEach_cons hn) (NoStar.any (NoStar.two hn' hn2))) fun σ H R q => ?_
  refine (ri_bind (R := RVl G) (k := fun x r h => (g r h).bind fun y h => (k r h).bind fun z h => match x with | .int i => (match y with | .int j => (match z with | .int k => (match ibeq k (-1) with | false => .bad 204 | true => (match ismall i 62 with | true => (match ismall j 62 with | true => .ok (.rng i (-1) (Int.sub i j).toNat, none) h | false => .bad 205) | false => .bad 205)) | _ => .bad 205) | _ => .bad 205) | _ => .bad 205) q).imp ?_
  rintro v H1 ⟨φ1, η1, r1, x, S1, E1, R1, p1⟩
  refine (pi_bind (R := RVl G) (fa := g) (k := _) S1 E1 p1).imp ?_
  rintro w H2 ⟨φ2, η2, y, ev, S2, E2, R2, p2⟩
  refine (pi_bind (R := RVl G) (fa := k) (k := _) S2 E2 p2).imp ?_
  rintro u H3 ⟨φ3, η3, z, ev3, S3, E3, R3, p3⟩
  cases R1 with
  | int i => cases R2 with
    | int j => cases R3 with
      | int c =>
        simp only at p3
        cases hk : ibeq c (-1) with
        | false => simp only [hk] at p3; exact p3.elim
        | true =>
          simp only [hk] at p3
          rw [ibeq_eq] at hk
          have hk := of_decide_eq_true hk
          subst hk
          cases hs : ismall i 62 with
          | false => simp only [hs] at p3; exact p3.elim
          | true =>
            simp only [hs] at p3
            cases hs2 : ismall j 62 with
            | false => simp only [hs2] at p3; exact p3.elim
            | true =>
              simp only [hs2] at p3
              obtain ⟨h1, h2⟩ := ismall_in hs
              obtain ⟨h3, h4⟩ := ismall_in hs2
              refine ⟨i, j, -1, (i - j).toNat, rfl, RgC.neg h1 h2 h3 h4, p3 φ3 H3 (Itc i (-1) (i - j).toNat) _ Evo.refl S3 walk_rngC ⟨Nat.zero_le _, ?_⟩ trivial⟩
              show Cu.rng i (-1) (i - j).toNat = .rng (i + ((0 : Nat) : Int) * (-1)) (-1) ((i - j).toNat - 0)
              rw [Int.natCast_zero, Int.zero_mul, Int.add_zero, Nat.sub_zero]
      | _ => exact p3.elim
    | _ => exact p3.elim
  | _ => exact p3.elim
end
end FP
end
section
namespace PySem
open Sem (wp)
set_option maxHeartbeats 1000000 in
theorem meets_enumerate_new1 {v : Value} {o : Obj} {H : Heap → Prop} (B : Begins v o H) :
    Meets (Builtin.«enumerate.__new__» ⟨[.type "enumerate", v], []⟩) (fun _ R s => H s.heap ∧
      R (.ok (.ret (.ref (s.heap.push o).objs.size))) { s with heap := (s.heap.push o).push { cls := .type "enumerate", data := .fields #[.none, .bool false, .ref s.heap.objs.size, rawInt 0, .none, .none] } }) :=
  .of_wp fun prog w A R s h => by
    obtain ⟨hp, g, d, tk, os⟩ := s; obtain ⟨h1, h⟩ := h
    have hsub := sub_enumerate
    have q1 : ∀ {A' : Around} {E : Value → Shared → Prop} {Q : Value → Shared → Prop}, Q (.ref hp.objs.size) ⟨hp.push o, g, d, tk, os⟩ → wpAny (model prog w) A' (pyIter v) Q E ⟨hp, g, d, tk, os⟩ :=
      fun q => B.iter prog w _ _ ⟨hp, g, d, tk, os⟩ _ h1 q
    wp_walk using q1
    refine wpAny_stack_any fun st => wpAny_pure ?_
    split
    · rename_i c _ _ _ _ _
      cases (c == Value.type "enumerate")
      · wp_walk using q1
        exact ⟨_, rfl, h⟩
      · wp_walk using q1
        exact ⟨_, rfl, h⟩
    · wp_walk using q1
      exact ⟨_, rfl, h⟩
section
variable {prog : Program} {w : World} {A : Around} {E : Value → Shared → Prop} {s : Shared}
theorem enum_begins1 {v : Value} {o : Obj} {H : Heap → Prop} {Q : Value → Shared → Prop} (B : Begins v o H) (h1 : H s.heap)
    (h : ∀ h', IsEnum h' (s.heap.objs.size + 1) s.heap.objs.size 0 .none → h'.get? s.heap.objs.size = some o → h'.objs.size = s.heap.objs.size + 2 →
      (∀ b o, s.heap.get? b = some o → h'.get? b = some o) → Q (.ref (s.heap.objs.size + 1)) { s with heap := h' }) :
    wpAny (model prog w) A (call (.type "enumerate") [v]) Q E s := by
  refine callType_new F.called_enumerate (by decide) (F.typeCall_enumerate_1 _) (F.newCall_enumerate_1 _) (fun obj => F.args_object_init_2 obj _) F.entry_enumerate_new
    (meets_enumerate_new1 B) ⟨h1, ?_⟩
  have hz : (s.heap.push o).objs.size = s.heap.objs.size + 1 := Heap.size_push ..
  show _ ∧ _
  rw [hz]
  have he : IsEnum ((s.heap.push o).push { cls := .type "enumerate", data := .fields #[.none, .bool false, .ref s.heap.objs.size, rawInt 0, .none, .none] }) (s.heap.objs.size + 1) s.heap.objs.size 0 .none := by
    have := Heap.get?_push_size (s.heap.push o) (o := { cls := .type "enumerate", data := .fields #[.none, .bool false, .ref s.heap.objs.size, rawInt 0, .none, .none] }) rfl
    rw [hz] at this; exact this
  refine ⟨⟨_, he, rfl⟩, h _ he (Heap.get?_push_of_some _ (Heap.get?_push_size _ B.free)) (by rw [Heap.size_push, hz]) fun b o x => Heap.get?_push_of_some _ (Heap.get?_push_of_some _ x)⟩
theorem wpAny_pyNext_enum_endT {e it l : Addr} {i : Nat} {k : Int} {items : Array Value} {old : Value} {Q : Option Value → Shared → Prop} (hh : A.handled = none)
    (he : IsEnum s.heap e it k old) (hit : s.heap.IsTupleIter it l i) (hl : s.heap.IsTuple l items) (hx : items[i]? = none)
    (hQ : ∀ h', Heap.ExtBut it s.heap h' → Q none { s with heap := h' }) : wpAny (model prog w) A (pyNext (.ref e)) Q E s := by
  have hT : s.TypeIs (.ref e) "enumerate" := ⟨_, he, rfl⟩
  unfold pyNext
  refine wpAny_bind (wpAny_attempt (wpAny_callSpecial?_slot (name := Str.ofString "__next__") hT F.slot_enumerate_next
    (wpAny_call_entry F.slot_enumerate_next hT F.entry_enumerate_next ?_ (F.args_enumerate_next_1 _))))
  show wpAny _ _ (field (.ref e) 2 >>= _) _ _ _
  refine wpAny_bind (wpAny_field he rfl (x := .ref it) rfl ?_)
  refine wpAny_bind (wpAny_nextOf_tuple_end hh hit hl hx fun h' x he' hx' => ?_)
  obtain ⟨o, ho, hc⟩ := hx'
  refine wpAny_bind (wpAny_isInstance (T := "StopIteration") (b := true) ⟨o, ho, hc⟩ isSubtype_stop ?_)
  exact wpAny_pure (hQ _ he')
end
end PySem
namespace FP
open PySem PySem.Spec PyProof.Rows L2 PySem.SeqAt
/-- the tuple at a, each item in a new pair -/
def IteT (K : PySem.W.Frag) (a : Addr) : It :=
  ⟨fun i H => ∃ (xs : List V) (x : V), SqT K H a xs ∧ xs[i]? = some x, fun i H v H' => ∃ T x, v = .ref T ∧ H T = none ∧ H' = upd H T (.tup [.int (i : Nat), x]) ∧ ∀ xs, SqT K H a xs → xs[i]? = some x, fun i H => ∃ xs : List V, SqT K H a xs ∧ xs.length ≤ i⟩
theorem turn_enumT {P : Program} {w : World} {K : PySem.W.Frag} {elts : List Expr} {kk : Nat} {tpos : Pos} (a e it : Addr) (hea : e ≠ a) (hia : it ≠ a) :
    Turn P w K (.Tuple elts kk tpos) (IteT K a) [e, it] e (fun i h => (∃ old, IsEnum h e it ((i : Nat) : Int) old) ∧ h.IsTupleIter it a i ∧ e ≠ it) where
  mem := by simp
  obj := fun i h st b hb => by
    obtain ⟨⟨old, he⟩, ⟨o, ho, hc, hd⟩, _⟩ := st
    have e' : b = e ∨ b = it := by simpa using hb
    rcases e' with z | z
    · rw [z]; exact ⟨_, he, fun v q => nomatch q⟩
    · rw [z]; exact ⟨o, ho, fun v q => by rw [hd] at q; cases q⟩
  keep := fun i h h' st k => let ⟨⟨old, he⟩, hi, hne⟩ := st; ⟨⟨old, k e (by simp) _ he⟩, hi.at fun o q => k it (by simp) o q, hne⟩
  item := by
    intro X hP hw hK hc i pins s σ H E I hf st hg
    subst hP hw hK
    obtain ⟨⟨old, he⟩, hit, hne⟩ := st
    obtain ⟨xs, x, hq, hx⟩ := hg
    obtain ⟨its, rv, p, hz⟩ := I.tuple hq
    obtain ⟨u, hu, ru⟩ := rv.get hx
    have hel : e < s.heap.objs.size := Heap.lt_size he
    have hil : it < s.heap.objs.size := by obtain ⟨_, q, _⟩ := hit; exact Heap.lt_size q
    have pT : s.heap.IsTuple a its.toArray := p
    have hlt : i < its.toArray.size := by
      have := (List.getElem?_eq_some_iff.mp hu).1
      simpa using this
    refine wpAny_pyNext_enum_itemD (Draws.tuple (show X.A.in1.handled = none from I.ok.hd hc) it a (Ne.symm hia) its.toArray) he ⟨hit, pT⟩ hlt hne (by simp [hne, hea]) fun y h' tk hy ho hst hT hsz hk => ?_
    have hyu : y = u := by
      have hy' : its[i]? = some y := by simpa using hy
      rw [hu] at hy'; cases hy'; rfl
    subst hyu
    refine ⟨_, rfl, wpAny_letOwnedTupleGo_enum (s := { s with heap := h', toks := tk + 1 }) ho fun h'' he' sb => ?_⟩
    have hT2 : h''.get? s.heap.objs.size = some { cls := .type "tuple", data := .seq #[.int i tk, y] } := (sb.2 _ (Nat.ne_of_gt hel)).trans hT
    have new : ObjOk X.prog X.w (upd H s.heap.objs.size (.tup [.int (i : Nat), x])) h'' s.heap.objs.size (.tup [.int (i : Nat), x]) :=
      ⟨by show 2 ≤ sizeLine; decide, [.int i tk, y], .cons ⟨_, rfl⟩ (.cons ru .nil), ⟨_, hT2, rfl, _, rfl⟩⟩
    have I1 : Inv X pins σ (upd H s.heap.objs.size (.tup [.int (i : Nat), x])) { s with heap := h'', toks := tk + 1 } :=
      I.turnedNew (ch := [e, it]) (fun b ob hb q => (sb.2 b (fun z => hb (by simp [z]))).trans (hk b ob (fun z => hb (by simp [z])) (fun z => hb (by simp [z])) q)) hf (Nat.le_refl _) new
    refine ⟨.ref s.heap.objs.size, _, I1, rfl, ⟨_, x, rfl, I.hok.fresh (Nat.le_refl _), rfl, fun ys hy => by rw [I.tuple_inj hy hq]; exact hx⟩, ⟨⟨y, ?_⟩, hst.1.at fun o q => (sb.2 it (Ne.symm hne)).trans q, hne⟩, fun b hb => ?_⟩
    · have e1 : ((i + 1 : Nat) : Int) = (i : Int) + 1 := by omega
      rw [e1]; exact he'
    · have hb' : b < s.heap.objs.size := by
        have e' : b = e ∨ b = it := by simpa using hb
        rcases e' with z | z
        · rw [z]; exact hel
        · rw [z]; exact hil
      rw [upd_ne (Nat.ne_of_lt hb')]
      exact (hf b hb).1
  done := by
    intro X hP hw hK hc i pins s σ H E I hf st hg
    subst hP hw hK
    obtain ⟨⟨old, he⟩, hit, hne⟩ := st
    obtain ⟨xs, hq, hx⟩ := hg
    obtain ⟨its, rv, p, hz⟩ := I.tuple hq
    obtain ⟨f0, f1, f2, f3, f4, f5⟩ := hf it (by simp)
    have hl := rv.length
    have pT : s.heap.IsTuple a its.toArray := p
    exact wpAny_pyNext_enum_endT (I.ok.hd hc) he hit pT (by simp; omega) fun h' eb => ⟨rfl, I.turned (t' := s.toks) (fun b o hb q => eb b o hb q) f0 f1 f3 f4 f5⟩
  self := fun A i s Q E st h => let ⟨⟨_, he⟩, _⟩ := st; wpAny_pyIter_enum he h
def IteB (K : PySem.W.Frag) (b : Bool) (a : Addr) : It := match b with
  | true => IteT K a
  | false => Ite K a
section
variable {X : Cx} {G : Gd}
theorem pi_enumB {e : Expr} {ta : TA} {p pos tpos : Pos} {elts : List Expr} {kk : Nat} (hg : Gl X "enumerate") (hm : X.mg "enumerate" = none) (ha : PA X [e] ta) (hs : starEach [e] X.env = [(false, eval e X.env)]) :
    PI X (.Tuple elts kk tpos) (.Call (.Name "enumerate" p) [e] [] pos) (fun σ H R => ta σ H fun vs H1 => ∃ b a xs, vs = [.ref a] ∧ SqB X.K H1 b a xs ∧ R (IteB X.K b a) H1) := by
  refine ⟨fun pins s σ H R I h => ?_⟩
  refine Call_ (ld_blt I hg hm boot_enumerate (PyProof.Rows.callWith_type1 (thn (ha.run pos pins s σ H _ I h) fun us s1 ⟨vs, H1, I1, r1, q1⟩ => ?_) hs rfl))
  obtain ⟨b, a, xs, ex, hq, q⟩ := q1
  subst ex
  cases r1 with
  | cons r rr =>
    cases rr
    cases r
    have own : ∀ b, b ∈ [s1.heap.objs.size + 1, s1.heap.objs.size] → FpOk X pins H1 b := fun b hb => by
      have e' : b = s1.heap.objs.size + 1 ∨ b = s1.heap.objs.size := by simpa using hb
      have hle : s1.heap.objs.size ≤ b := by
        rcases e' with z | z
        · rw [z]; exact Nat.le_add_right _ _
        · rw [z]; exact Nat.le_refl _
      exact I1.fpOk hle (I1.hok.fresh hle)
    cases b with
    | false =>
      obtain ⟨its, rv, p', hz⟩ := I1.list (show SqL X.K H1 a xs from hq)
      refine call_enumerate_list p'.isList fun h' he hit hsz hk => wpAny_pyIter_enum he ?_
      have I2 : Inv X pins σ H1 { s1 with heap := h' } := I1.kept (t' := s1.toks) hk
      exact ⟨s1.heap.objs.size + 1, [s1.heap.objs.size + 1, s1.heap.objs.size], _, _, H1, rfl, I2, turn_enum a (s1.heap.objs.size + 1) s1.heap.objs.size, ⟨⟨.none, he⟩, hit, Nat.succ_ne_self _⟩, own, q⟩
    | true =>
      obtain ⟨its, rv, p', hz⟩ := I1.tuple (show SqT X.K H1 a xs from hq)
      have pT : s1.heap.IsTuple a its.toArray := p'
      have hal : a < s1.heap.objs.size := by obtain ⟨_, q, _⟩ := pT; exact Heap.lt_size q
      refine enum_begins1 (begins_tuple a its.toArray) pT fun h' he hit hsz hk => wpAny_pyIter_enum he ?_
      have I2 : Inv X pins σ H1 { s1 with heap := h' } := I1.kept (t' := s1.toks) hk
      exact ⟨s1.heap.objs.size + 1, [s1.heap.objs.size + 1, s1.heap.objs.size], _, _, H1, rfl, I2, turn_enumT a (s1.heap.objs.size + 1) s1.heap.objs.size (Nat.ne_of_gt (Nat.lt_succ_of_lt hal)) (Nat.ne_of_gt hal), ⟨⟨.none, he⟩, ⟨_, hit, rfl, rfl⟩, Nat.succ_ne_self _⟩, own, q⟩
theorem walk_enum0 {F : Addr → Prop} {b : Bool} {a : Addr} : Walk0 G (RP G) (IteB G.K b a) fun i φ H c => ∃ c1, c = .enum i c1 ∧ Src G F φ H b a i c1 where
  evo := fun i φ H φ' H' c ⟨c1, e, h1⟩ t ev => ⟨c1, e, h1.evo t ev⟩
  stop := fun i φ η H c ⟨c1, ec, h1⟩ S e => by
    subst ec
    have e' : (match next η c1 with | .item v c => Nx.item (.tup [.int (.ofNat i), v]) (.enum (Nat.succ i) c) | .stop => .stop | .bad => .bad) = .stop := e
    cases hn1 : next η c1 with
    | bad => rw [hn1] at e'; cases e'
    | item v c1' => rw [hn1] at e'; cases e'
    | stop =>
      obtain ⟨vs, q1, l1⟩ := (h1.next S).2 hn1
      cases b with
      | true => exact ⟨vs, q1, l1⟩
      | false => exact ⟨vs, q1, l1⟩
  item := fun i φ η H c v c' ⟨c1, ec, h1⟩ S e => by
    subst ec
    have e' : (match next η c1 with | .item v c => Nx.item (.tup [.int (.ofNat i), v]) (.enum (Nat.succ i) c) | .stop => .stop | .bad => .bad) = .item v c' := e
    cases hn1 : next η c1 with
    | bad => rw [hn1] at e'; cases e'
    | stop => rw [hn1] at e'; cases e'
    | item x1 c1' =>
      simp only [hn1] at e'
      cases e'
      obtain ⟨vs, y1, q1, g1, r1, s1⟩ := (h1.next S).1 x1 c1' hn1
      have key : ∀ {T : Addr} {H' : Hp}, H T = none → H' = upd H T (.tup [.int (i : Nat), y1]) → Evo φ H φ H' ∧ Sim G φ η H' ∧ RP G φ H' (.tup [.int (.ofNat i), x1]) (.ref T) ∧ ∃ d1, Cu.enum (Nat.succ i) c1' = .enum (i + 1) d1 ∧ Src G F φ H' b a (i + 1) d1 := fun {T H'} hT eH => by
        subst eH
        exact ⟨Evo.upd hT, S.upd hT, ⟨.int (.ofNat i), x1, T, .int (i : Nat), y1, rfl, rfl, SqT.of upd_same, .int _, r1.evo (Evo.upd hT) S.trk⟩, c1', rfl, s1.upd S.trk hT⟩
      cases b with
      | true =>
        refine ⟨⟨vs, y1, q1, g1⟩, fun z H' ⟨T, x, ez, hT, eH, f1⟩ => ?_⟩
        have a1 := f1 vs q1
        rw [g1] at a1; cases a1
        subst ez
        exact key hT eH
      | false =>
        refine ⟨⟨vs, y1, q1, g1⟩, fun z H' ⟨T, x, ez, hT, eH, f1⟩ => ?_⟩
        have a1 := f1 vs q1
        rw [g1] at a1; cases a1
        subst ez
        exact key hT eH
theorem walk_enum {b : Bool} {a : Addr} : Walk G (RP G) (IteB G.K b a) fun i φ H c => ∃ c1, c = .enum i c1 ∧ Src0 G φ H b a i c1 :=
  { walk_enum0 with away := fun D => ⟨fun i φ H c => ∃ c1, c = .enum i c1 ∧ Src G (· = D) φ H b a i c1, walk_enum0, ⟨fun i φ H c o u ⟨c1, e, h1⟩ hn hD nt => ⟨c1, e, h1.mut hD rfl nt⟩⟩, fun φ H c ⟨c1, e, h1⟩ hD => ⟨c1, e, h1.forb hD⟩⟩ }
theorem si_enum (O : XOk X G) {a : Expr} {f : EvE} {elts : List Expr} {kk : Nat} {np pos tpos : Pos} (B : Bn X "enumerate" (.type "enumerate")) (ha : SE X G a f) (hn : ∀ v p, a ≠ .Starred v p) :
    SI X G (RP G) (.Tuple elts kk tpos) (.Call (.Name "enumerate" np) [a] [] pos) (FP.iEnum f) := fun W tk => by
  refine piWeak (pi_enumB B.g B.m (pa_cons (ha W tk) pa_nil (starEach_cons hn)) (starEach_cons hn)) fun σ H R q => ?_
  refine (ri_bind (R := RVl G) (k := fun v _ h => match seqCur h v with | some c => .ok (.enum 0 c, none) h | none => .bad 206) q).imp ?_
  rintro v H1 ⟨φ1, η1, r1, x, S1, E1, R1, p1⟩
  cases h1 : seqCur η1 x with
  | none => simp only [h1] at p1; exact p1.elim
  | some c =>
    simp only [h1] at p1
    obtain ⟨a1, vs, e1, q1, s1⟩ := seqCur_src S1 R1 h1
    refine ⟨isTup x, a1, vs, by rw [e1], by rw [O.K]; exact q1, ?_⟩
    rw [O.K]
    exact p1 φ1 H1 (IteB G.K (isTup x) a1) _ Evo.refl S1 walk_enum ⟨c, rfl, s1⟩ trivial
theorem si_enumQ (O : XOk X G) {a : Expr} {f : EvQ} {elts : List Expr} {kk : Nat} {np pos tpos : Pos} (B : Bn X "enumerate" (.type "enumerate")) (ha : SL X G a f) (hn : ∀ v p, a ≠ .Starred v p) :
    SI X G (RP G) (.Tuple elts kk tpos) (.Call (.Name "enumerate" np) [a] [] pos) (FP.iEnumQ f) := fun W tk => by
  refine piWeak (pi_enumB B.g B.m (pa_cons (ha W tk) pa_nil (starEach_cons hn)) (starEach_cons hn)) fun σ H R q => ?_
  obtain ⟨φ, η, r, S, E, p⟩ := q
  refine ⟨φ, η, r, S, E, ?_⟩
  have p : PostI X G (RP G) (fun c d H' => W c d σ H') φ H ((f r η).bind fun xs h => .ok (.enum 0 (.vals xs), none) h) R := p
  cases hf : f r η with
  | bad m => rw [hf] at p; exact p
  | ex c v η' => rw [hf] at p; exact p
  | ok xs η' =>
    rw [hf] at p
    rintro φ1 H1 v e1 S1 ⟨a, vs, rfl, h0, ha, hn, R1⟩
    exact ⟨false, a, vs, rfl, SqL.of ha, by rw [O.K]; exact p φ1 H1 (IteB G.K false a) (fun i φ H c => ∃ c1, c = .enum i c1 ∧ Src0 G φ H false a i c1) e1 S1 walk_enum ⟨_, rfl, Src.new ha hn (fun z => z) R1 (i := 0)⟩ trivial⟩
end
end FP
end
section
namespace FP
open PySem PySem.Spec PyProof.Rows L2 PySem.SeqAt

theorem keyOk_mono : ∀ (n m : Nat) (x : Vl), n ≤ m → keyOk n x = true → keyOk m x = true
  | 0, _, _, _, h => nomatch h
  | n + 1, 0, _, hl, _ => absurd hl (by omega)
  | n + 1, m + 1, x, hl, h => by
    cases x with
    | tup xs =>
      have h' : xs.all (keyOk n) = true := h
      show xs.all (keyOk m) = true
      exact List.all_eq_true.mpr fun y hy => keyOk_mono n m y (by omega) (List.all_eq_true.mp h' y hy)
    | int _ => rfl
    | str _ => rfl
    | _ => cases h
theorem nks_inj {n : Nat} (ih : ∀ x y : Vl, keyOk n x = true → keyOk n y = true → nk x = nk y → x = y) : ∀ xs ys : List Vl, xs.all (keyOk n) = true → ys.all (keyOk n) = true → nks xs = nks ys → xs = ys
  | [], [], _, _, _ => rfl
  | [], _ :: _, _, _, e => by simp only [nks] at e; cases e
  | _ :: _, [], _, _, e => by simp only [nks] at e; cases e
  | x :: xs, y :: ys, hx, hy, e => by
    simp only [nks, List.cons.injEq] at e
    rw [List.all_cons, Bool.and_eq_true] at hx hy
    rw [ih x y hx.1 hy.1 e.1, nks_inj ih xs ys hx.2 hy.2 e.2]
theorem nk_inj : ∀ (n : Nat) (x y : Vl), keyOk n x = true → keyOk n y = true → nk x = nk y → x = y
  | 0, _, _, h, _, _ => nomatch h
  | n + 1, x, y, hx, hy, e => by
    cases x with
    | int i => cases y with
      | int j => simp only [nk, NestedKey.num.injEq] at e; rw [e]
      | str t => simp only [nk] at e; cases e
      | tup t => simp only [nk] at e; cases e
      | _ => cases hy
    | str i => cases y with
      | int j => simp only [nk] at e; cases e
      | str t => simp only [nk, NestedKey.text.injEq] at e; rw [strOf_inj e]
      | tup t => simp only [nk] at e; cases e
      | _ => cases hy
    | tup xs => cases y with
      | int j => simp only [nk] at e; cases e
      | str t => simp only [nk] at e; cases e
      | tup ys =>
        simp only [nk, NestedKey.tup.injEq] at e
        rw [nks_inj (nk_inj n) xs ys hx hy e]
      | _ => cases hy
    | _ => cases hx
theorem nks_depth {n : Nat} (ih : ∀ x : Vl, keyOk n x = true → (nk x).depth ≤ n) : ∀ xs : List Vl, xs.all (keyOk n) = true → NestedKey.depthAll (nks xs) ≤ n
  | [], _ => Nat.zero_le _
  | x :: xs, h => by
    rw [List.all_cons, Bool.and_eq_true] at h
    simp only [nks, NestedKey.depthAll]
    exact Nat.max_le.mpr ⟨ih x h.1, nks_depth ih xs h.2⟩
theorem nk_depth : ∀ (n : Nat) (x : Vl), keyOk n x = true → (nk x).depth ≤ n
  | 0, _, h => nomatch h
  | n + 1, x, h => by
    cases x with
    | tup xs =>
      simp only [nk, NestedKey.depth]
      exact Nat.succ_le_succ (nks_depth (nk_depth n) xs h)
    | int _ => simp only [nk, NestedKey.depth]; exact Nat.zero_le _
    | str _ => simp only [nk, NestedKey.depth]; exact Nat.zero_le _
    | _ => cases h
theorem kdk_ok {x : Vl} (h : kdk x = true) : keyOk 8 x = true := by
  cases x with
  | tup xs => exact h
  | _ => cases h
theorem kdk_tup {x : Vl} (h : kdk x = true) : ∃ xs, x = .tup xs := by
  cases x with
  | tup xs => exact ⟨xs, rfl⟩
  | _ => cases h
theorem kdk_inj {x y : Vl} (hx : kdk x = true) (hy : kdk y = true) (e : nk x = nk y) : x = y := nk_inj 8 x y (kdk_ok hx) (kdk_ok hy) e

section
variable {X : Cx} {G : Gd} {pins : List (Addr × Obj)} {s : Shared} {σ : L2.St} {H : Hp} {φ : List Addr} {η : He}
theorem nested_all (O : XOk X G) {n : Nat} (ih : ∀ (x : Vl) (v : V) (u : Value), keyOk n x = true → RV G.K φ H x v → RelV v u → NestedIs s.heap (nk x) u) : ∀ (xs : List Vl) (vs : List V) (us : List Value), xs.all (keyOk n) = true → RVs G.K φ H xs vs → Vals vs us → NestedAll s.heap (nks xs) us
  | [], vs, us, _, R, r => by
    cases R.inv_nil
    cases r
    simp only [nks]; exact .nil
  | x :: xs, vs, us, h, R, r => by
    obtain ⟨v, ws, rfl, rx, R⟩ := R.inv_cons
    cases r with
    | cons r1 r2 =>
      rw [List.all_cons, Bool.and_eq_true] at h
      simp only [nks]
      exact .cons (ih x v _ h.1 rx r1) (nested_all O ih xs ws _ h.2 R r2)
theorem nested_of (O : XOk X G) (I : Inv X pins σ H s) : ∀ (n : Nat) (x : Vl) (v : V) (u : Value), keyOk n x = true → RV G.K φ H x v → RelV v u → NestedIs s.heap (nk x) u
  | 0, _, _, _, h, _, _ => nomatch h
  | n + 1, x, v, u, h, rx, r => by
    cases rx with
    | int i => obtain ⟨t, rfl⟩ := r; simp only [nk]; exact .int i t
    | str z => obtain ⟨t, rfl⟩ := r; simp only [nk]; exact .text _ t
    | @tup xs a vs hq hl hx =>
      obtain ⟨its, rv, o, h1, h2, m, h3⟩ := tupAt O I hq.t
      cases (show u = Value.ref a from r)
      simp only [nk]
      exact .tup h1 h2 h3 (by simpa using nested_all O (nested_of O I n) xs vs its h ⟨hl, hx⟩ rv)
    | _ => cases h
/-- a key's object -/
theorem key_is (O : XOk X G) (I : Inv X pins σ H s) {x : Vl} {v : V} {u : Value} (h : kdk x = true) (rx : RV G.K φ H x v) (r : RelV v u) : ∃ a, u = .ref a ∧ (nestedKind X.prog X.w).is s.heap (nk x) a := by
  obtain ⟨xs, rfl⟩ := kdk_tup h
  have hn := nested_of O I 8 _ _ _ (kdk_ok h) rx r
  cases rx with
  | @tup xs a vs hq hl hx =>
    cases (show u = Value.ref a from r)
    exact ⟨a, rfl, hn, nk_depth 8 _ (kdk_ok h)⟩
end

def adr : Value → Addr
  | .ref a => a
  | _ => 0
def nx (q : Vl × Value × Value) : NestedKey × Addr × Value := (nk q.1, adr q.2.1, q.2.2)
theorem ked_true {x y : Vl} (h : ked x y = some true) : x = y := keq_true 60 x y h
theorem ked_false {x y : Vl} (h : ked x y = some false) : x ≠ y := fun e => by
  subst e
  have := keq_refl 60 x _ h
  cases this
theorem dget_none {k : Vl} : ∀ {es : List (Vl × Vl)}, dget k es = some none → ∀ p ∈ es, p.1 ≠ k
  | [], _, p, m => nomatch m
  | e :: es, h, p, m => by
    have h' : (match ked e.1 k with | some c => (match c with | true => some (some e.2) | false => dget k es) | none => none) = some none := h
    cases hk : ked e.1 k with
    | none => rw [hk] at h'; cases h'
    | some c =>
      rw [hk] at h'
      cases c with
      | true => cases h'
      | false =>
        rcases List.mem_cons.mp m with rfl | m
        · exact ked_false hk
        · exact dget_none h' p m
theorem dget_some {k v : Vl} : ∀ {es : List (Vl × Vl)}, dget k es = some (some v) → ∃ i : Nat, es[i]? = some (k, v)
  | [], h => nomatch h
  | e :: es, h => by
    have h' : (match ked e.1 k with | some c => (match c with | true => some (some e.2) | false => dget k es) | none => none) = some (some v) := h
    cases hk : ked e.1 k with
    | none => rw [hk] at h'; cases h'
    | some c =>
      rw [hk] at h'
      cases c with
      | true => cases h'; exact ⟨0, by rw [← ked_true hk]; rfl⟩
      | false =>
        obtain ⟨i, hi⟩ := dget_some (show dget k es = some (some v) from h')
        exact ⟨i + 1, hi⟩
theorem dput_some {k v : Vl} : ∀ {es z : List (Vl × Vl)}, dput k v es = some z → ((∀ p ∈ es, p.1 ≠ k) ∧ z = es ++ [(k, v)]) ∨ ∃ (i : Nat) (old : Vl), es[i]? = some (k, old) ∧ z = es.set i (k, v)
  | [], z, h => by cases h; exact .inl ⟨(fun p m => nomatch m), rfl⟩
  | e :: es, z, h => by
    have h' : (match ked e.1 k with | some c => (match c with | true => some ((e.1, v) :: es) | false => (match dput k v es with | some z => some (e :: z) | none => none)) | none => none) = some z := h
    cases hk : ked e.1 k with
    | none => rw [hk] at h'; cases h'
    | some c =>
      rw [hk] at h'
      cases c with
      | true =>
        cases h'
        refine .inr ⟨0, e.2, by rw [← ked_true hk]; rfl, ?_⟩
        rw [← ked_true hk]; rfl
      | false =>
        cases hd : dput k v es with
        | none => rw [hd] at h'; cases h'
        | some y =>
          rw [hd] at h'
          cases h'
          rcases dput_some hd with ⟨h1, rfl⟩ | ⟨i, old, h1, rfl⟩
          · refine .inl ⟨fun p m => ?_, rfl⟩
            rcases List.mem_cons.mp m with rfl | m
            · exact ked_false hk
            · exact h1 p m
          · exact .inr ⟨i + 1, old, h1, rfl⟩
theorem nodup_nk : ∀ {l : List Vl}, (∀ x ∈ l, kdk x = true) → l.Nodup → (l.map nk).Nodup
  | [], _, _ => List.nodup_nil
  | x :: l, h, n => by
    obtain ⟨n1, n2⟩ := List.nodup_cons.mp n
    rw [List.map_cons]
    refine List.nodup_cons.mpr ⟨fun m => ?_, nodup_nk (fun y m => h y (List.mem_cons_of_mem _ m)) n2⟩
    obtain ⟨y, hy, e⟩ := List.mem_map.mp m
    have := kdk_inj (h y (List.mem_cons_of_mem _ hy)) (h x List.mem_cons_self) e
    subst this
    exact n1 hy
theorem map_putAt_set {K : Type} [DecidableEq K] {xs : List (K × Addr × Value)} (hn : (xs.map (·.1)).Nodup) {i : Nat} {k : K} {a : Addr} {o : Value} (h : xs[i]? = some (k, a, o)) (v : Value) : xs.map (putAt k v) = xs.set i (k, a, v) := by
  refine List.ext_getElem? fun j => ?_
  rw [List.getElem?_map]
  by_cases e : i = j
  · subst e
    rw [h, List.getElem?_set_self (List.getElem?_eq_some_iff.mp h).1]
    show some (putAt k v (k, a, o)) = _
    unfold putAt
    rw [if_pos rfl]
  · rw [List.getElem?_set_ne e]
    cases hj : xs[j]? with
    | none => rfl
    | some y =>
      show some (putAt k v y) = _
      unfold putAt
      rw [if_neg fun z => e (idxH_unique (p := (a, o)) (q := y.2) hn h (by rw [hj, ← z]))]

section
variable {X : Cx} {G : Gd} {pins : List (Addr × Obj)} {s : Shared} {σ : L2.St} {H : Hp} {φ : List Addr} {η : He} {es : List (Vl × Vl)} {xs : List (Vl × Value × Value)}
theorem RDT.fw (r : RDT G φ H es xs) {i : Nat} {p : Vl × Vl} (h : es[i]? = some p) : ∃ q, xs[i]? = some q ∧ p.1 = q.1 ∧ kdk p.1 = true ∧ (∃ v, RV G.K φ H p.1 v ∧ RelV v q.2.1) ∧ ∃ v, RV G.K φ H p.2 v ∧ RelV v q.2.2 := by
  have hi : i < es.length := (List.getElem?_eq_some_iff.mp h).1
  have hx : xs[i]? = some (xs[i]'(by rw [← r.1]; exact hi)) := List.getElem?_eq_getElem _
  exact ⟨_, hx, r.2.2.2 i p _ h hx⟩
theorem RDT.bw (r : RDT G φ H es xs) {i : Nat} {q : Vl × Value × Value} (h : xs[i]? = some q) : ∃ p, es[i]? = some p ∧ p.1 = q.1 ∧ kdk p.1 = true ∧ (∃ v, RV G.K φ H p.1 v ∧ RelV v q.2.1) ∧ ∃ v, RV G.K φ H p.2 v ∧ RelV v q.2.2 := by
  have hi : i < xs.length := (List.getElem?_eq_some_iff.mp h).1
  have hx : es[i]? = some (es[i]'(by rw [r.1]; exact hi)) := List.getElem?_eq_getElem _
  exact ⟨_, hx, r.2.2.2 i _ q hx h⟩
theorem key_ref {x : Vl} {v : V} {u : Value} (h : kdk x = true) (rx : RV G.K φ H x v) (r : RelV v u) : u = .ref (adr u) := by
  obtain ⟨xs, rfl⟩ := kdk_tup h
  cases rx with
  | tup hq hl hx => cases (show u = Value.ref _ from r); rfl
theorem RDT.ref (r : RDT G φ H es xs) {q : Vl × Value × Value} (h : q ∈ xs) : kdk q.1 = true ∧ q.2.1 = .ref (adr q.2.1) := by
  obtain ⟨i, hi⟩ := List.getElem?_of_mem h
  obtain ⟨p, _, e, hk, ⟨v, h1, h2⟩, _⟩ := r.bw hi
  exact ⟨by rw [← e]; exact hk, key_ref hk h1 h2⟩
theorem RDT.nodup (r : RDT G φ H es xs) : ((xs.map nx).map (·.1)).Nodup := by
  have e : (xs.map nx).map (·.1) = (xs.map (·.1)).map nk := by rw [List.map_map, List.map_map]; rfl
  rw [e]
  refine nodup_nk (fun x m => ?_) r.2.2.1
  obtain ⟨q, hq, rfl⟩ := List.mem_map.mp m
  exact (r.ref hq).1
theorem RDT.entries (O : XOk X G) (r : RDT G φ H es xs) : (xs.map fun x => (⟨(nk x.1).hash G.w, x.2.1, x.2.2⟩ : DictEntry)) = (xs.map nx).map (entryOfKey (nestedKind X.prog X.w)) := by
  rw [List.map_map]
  refine List.map_congr_left fun x m => ?_
  show (⟨(nk x.1).hash G.w, x.2.1, x.2.2⟩ : DictEntry) = ⟨(nk x.1).hash X.w, .ref (adr x.2.1), x.2.2⟩
  rw [← (r.ref m).2, O.w]
theorem RDT.dict (O : XOk X G) (I : Inv X pins σ H s) {a : Addr} (r : RDT G φ H es xs) (d : DN G a xs s.heap) : s.heap.DictOfH (nestedKind X.prog X.w) a (xs.map nx) := by
  obtain ⟨o, es', ep, h1, h2, h3, h4⟩ := d
  refine ⟨o, es', ep, h1, h2, h3, by rw [h4, r.entries O], fun y m => ?_, r.nodup⟩
  obtain ⟨q, hq, rfl⟩ := List.mem_map.mp m
  obtain ⟨i, hi⟩ := List.getElem?_of_mem hq
  obtain ⟨p, _, e, hk, ⟨v, r1, r2⟩, _⟩ := r.bw hi
  obtain ⟨b, e2, hb⟩ := key_is O I hk r1 r2
  show (nestedKind X.prog X.w).is s.heap (nk q.1) (adr q.2.1)
  rw [e2, ← e]; exact hb
theorem DN.of (O : XOk X G) {h : Heap} {a : Addr} (r : RDT G φ H es xs) (d : h.DictOfH (nestedKind X.prog X.w) a (xs.map nx)) : DN G a xs h := by
  obtain ⟨o, es', ep, h1, h2, h3, h4, _⟩ := d
  exact ⟨o, es', ep, h1, h2, h3, by rw [h4, r.entries O]⟩
theorem RDT.hasNot (r : RDT G φ H es xs) {k : Vl} (hk : kdk k = true) (h : dget k es = some none) : atKey (xs.map nx) (nk k) = none := atKey_none_of_get fun j p e => by
  rw [List.getElem?_map] at e
  obtain ⟨q, hq, e⟩ := Option.map_eq_some_iff.mp e
  obtain ⟨p', hp, e1, hk', _⟩ := r.bw hq
  have e3 : nk q.1 = nk k := congrArg (·.1) e
  have := kdk_inj (by rw [← e1]; exact hk') hk e3
  exact dget_none h p' (List.mem_of_getElem? hp) (e1.trans this)
theorem RDT.has (r : RDT G φ H es xs) {k v : Vl} (h : dget k es = some (some v)) : ∃ (p : Addr × Value) (w : V), atKey (xs.map nx) (nk k) = some p ∧ RV G.K φ H v w ∧ RelV w p.2 := by
  obtain ⟨i, hi⟩ := dget_some h
  obtain ⟨q, hq, e, _, _, w, h1, h2⟩ := r.fw hi
  refine ⟨(adr q.2.1, q.2.2), w, atKey_of_get r.nodup (i := i) ?_, h1, h2⟩
  rw [List.getElem?_map, hq]
  show some (nx q) = _
  unfold nx
  rw [← e]
theorem few_le {α : Type} {es : List α} (h : few es = true) : es.length ≤ 10000 := Nat.le_of_ble_eq_true h
/-- an entry is put -/
theorem RDT.put (r : RDT G φ H es xs) {k v : Vl} {w w' : V} {u u' : Value} {z : List (Vl × Vl)} (hk : kdk k = true) (rk : RV G.K φ H k w) (r1 : RelV w u) (rv : RV G.K φ H v w') (r2 : RelV w' u') (h : dput k v es = some z) (hl : es.length + 1 ≤ sizeLine) :
    ∃ ys, storedH (xs.map nx) (nk k) (adr u) u' = ys.map nx ∧ RDT G φ H z ys := by
  rcases dput_some h with ⟨h1, rfl⟩ | ⟨i, old, h1, rfl⟩
  · have hn : atKey (xs.map nx) (nk k) = none := atKey_none_of_get fun j p e => by
      rw [List.getElem?_map] at e
      obtain ⟨q, hq, e⟩ := Option.map_eq_some_iff.mp e
      obtain ⟨p', hp, e1, hk', _⟩ := r.bw hq
      have e3 : nk q.1 = nk k := congrArg (·.1) e
      have := kdk_inj (by rw [← e1]; exact hk') hk e3
      exact h1 p' (List.mem_of_getElem? hp) (e1.trans this)
    refine ⟨xs ++ [(k, u, u')], ?_, ?_⟩
    · rw [storedH_new hn, List.map_append]; rfl
    · have hkn : k ∉ xs.map (·.1) := fun m => by
        obtain ⟨q, hq, e⟩ := List.mem_map.mp m
        obtain ⟨j, hj⟩ := List.getElem?_of_mem hq
        obtain ⟨p', hp, e1, _⟩ := r.bw hj
        exact h1 p' (List.mem_of_getElem? hp) (e1.trans e)
      refine ⟨by simp [r.1], by simp; omega, ?_, fun j p q hp hq => ?_⟩
      · rw [List.map_append]
        refine List.nodup_append.mpr ⟨r.2.2.1, by simp, fun a ha b hb => ?_⟩
        simp at hb
        subst hb
        rintro rfl
        exact hkn ha
      · by_cases hj : j < es.length
        · rw [List.getElem?_append_left hj] at hp
          rw [List.getElem?_append_left (by rw [← r.1]; exact hj)] at hq
          exact r.2.2.2 j p q hp hq
        · rw [List.getElem?_append_right (by omega)] at hp
          rw [List.getElem?_append_right (by rw [← r.1]; omega), ← r.1] at hq
          have hj0 : j - es.length = 0 := by
            have := (List.getElem?_eq_some_iff.mp hp).1
            simp at this; omega
          rw [hj0] at hp hq
          cases hp; cases hq
          exact ⟨rfl, hk, ⟨w, rk, r1⟩, w', rv, r2⟩
  · obtain ⟨q, hq, e, _, ⟨wk, k1, k2⟩, _⟩ := r.fw h1
    have hx : (xs.map nx)[i]? = some (nk k, adr q.2.1, q.2.2) := by
      rw [List.getElem?_map, hq]
      show some (nx q) = _
      unfold nx
      rw [← e]
    have hi : i < xs.length := (List.getElem?_eq_some_iff.mp hq).1
    refine ⟨xs.set i (k, q.2.1, u'), ?_, ?_⟩
    · rw [storedH_old (atKey_of_get r.nodup hx), map_putAt_set r.nodup hx, List.map_set]; rfl
    · have ek : (xs.set i (k, q.2.1, u')).map (·.1) = xs.map (·.1) := by
        rw [List.map_set]
        refine List.ext_getElem? fun j => ?_
        by_cases hj : i = j
        · subst hj
          rw [List.getElem?_set_self (by rw [List.length_map]; exact hi), List.getElem?_map, hq]
          show some k = some q.1
          rw [← e]
        · rw [List.getElem?_set_ne hj]
      refine ⟨by simp [r.1], by simp; omega, by rw [ek]; exact r.2.2.1, fun j p q' hp hq' => ?_⟩
      by_cases hj : i = j
      · subst hj
        rw [List.getElem?_set_self (by rw [r.1]; exact hi)] at hp
        rw [List.getElem?_set_self hi] at hq'
        cases hp; cases hq'
        exact ⟨rfl, hk, ⟨wk, k1, k2⟩, w', rv, r2⟩
      · rw [List.getElem?_set_ne hj] at hp hq'
        exact r.2.2.2 j p q' hp hq'
end
end FP
end
section
namespace FP
open PySem PySem.Spec PyProof.Rows L2 PySem.SeqAt

section
variable {X : Cx} {G : Gd} {pins : List (Addr × Obj)} {s : Shared} {σ : L2.St} {H : Hp} {φ : List Addr} {η : He}
/-- a dict of the heap -/
theorem dicAt (O : XOk X G) (I : Inv X pins σ H s) (S : Sim G φ η H) {q : Nat} {a : Addr} {lk : Bool} {es : List (Vl × Vl)} (hq : φ[q]? = some a) (h : η.get q = some (.dic lk es)) :
    ∃ xs, (a == sysModules) = false ∧ DN G a xs s.heap ∧ RDT G φ H es xs ∧ (lk = false → H a = some (.ext (DN G a xs))) ∧ (lk = true → ∃ o, H a = some (.frz o (.ext (DN G a xs)))) := by
  obtain ⟨o, ho, r⟩ := S.ob q a hq
  rw [h] at ho
  cases ho
  obtain ⟨u, h1, hs, xs, rfl, r⟩ := r
  cases lk with
  | false => exact ⟨xs, hs, (show ObjOk X.prog X.w H s.heap a (.ext (DN G a xs)) from I.hok a _ h1).1, r, fun _ => h1, fun e => nomatch e⟩
  | true =>
    obtain ⟨o, h1⟩ := h1
    have x : ObjOk X.prog X.w H s.heap a (.frz o (.ext (DN G a xs))) := I.hok a _ h1
    exact ⟨xs, hs, x.2.1, r, (fun e => nomatch e), fun _ => ⟨o, h1⟩⟩
theorem room8 (O : XOk X G) : (nestedKind X.prog X.w).room X.A.in1 := by
  show X.A.in1.units + 8 < cLine
  have h := O.units
  show X.A.units + 1 + 8 < cLine
  omega
theorem ix_seqI (O : XOk X G) {value slice : Expr} {xs : List Vl} {a : Addr} {vs : List V} {i : Int} {x : Vl} {u1 u2 : Value} {Q : VK}
    (I : Inv X pins σ H s) (r1 : RelV (.ref a) u1) (r2 : RelV (.int i) u2) (hq : SqL G.K H a vs ∨ SqD G.K H a vs) (R : RVs G.K φ H xs vs) (hn : nthI xs i = some x) (q : ∀ v, RV G.K φ H x v → Q v H)
    (hs : subscripted slice false u1 u2 = operate [u1, u2] (getItem u1 u2)) : wpAny (model X.prog X.w) X.A (subscriptTail value slice u1 u2) (EP X pins σ Q) X.xe s := by
  obtain ⟨v, h1, h2⟩ := R.atI hn
  rcases hq with hq | hq
  · exact ix_list value slice pins s σ H _ _ _ _ Q I r1 r2 ⟨a, vs, i, v, rfl, rfl, by rw [O.K]; exact hq, h1, q v h2⟩ hs
  · exact ix_tup value slice pins s σ H _ _ _ _ Q I r1 r2 ⟨a, vs, i, v, rfl, rfl, by rw [O.K]; exact hq.t, h1, q v h2⟩ hs
def oIx (η : He) (o : Option Vl) (k : Nat) : Rs Vl := match o with
  | some v => .ok v η
  | none => .bad k
theorem oIx_ok {W : Value → Option Addr → Hp → Prop} {o : Option Vl} {k : Nat} {Q : VK} (p : Post G (RVl G) W φ H (oIx η o k) Q) : ∃ x, o = some x ∧ Post G (RVl G) W φ H (.ok x η) Q := by
  cases o with
  | none => exact p.elim
  | some x => exact ⟨x, rfl, p⟩
def dIx (η : He) (es : List (Vl × Vl)) (y : Vl) : Rs Vl := match kdk y with
  | true => match dget y es with
    | some (some v) => .ok v η
    | _ => .bad 110
  | false => .bad 110
theorem dIx_ok {W : Value → Option Addr → Hp → Prop} {es : List (Vl × Vl)} {y : Vl} {Q : VK} (p : Post G (RVl G) W φ H (dIx η es y) Q) : kdk y = true ∧ ∃ v, dget y es = some (some v) ∧ Post G (RVl G) W φ H (.ok v η) Q := by
  unfold dIx at p
  cases hk : kdk y with
  | false => rw [hk] at p; exact p.elim
  | true =>
    rw [hk] at p
    cases hd : dget y es with
    | none => simp only [hd] at p; exact p.elim
    | some r =>
      cases r with
      | none => simp only [hd] at p; exact p.elim
      | some v => simp only [hd] at p; exact ⟨rfl, v, rfl, p⟩
def pIndexL (η : He) (m : Nat) (y : Vl) : Rs Vl := match η.get m with
  | some (.lst xs) => (match y with | .int i => oIx η (nthI xs i) 107 | _ => .bad 109)
  | some (.dic _ es) => dIx η es y
  | some _ => .bad 111
  | none => .bad 111
theorem pIndex_loc {m : Nat} {y : Vl} : pIndex (.loc m) y η = pIndexL η m y := by
  unfold pIndexL
  cases hg : η.get m with
  | none => simp only [pIndex, hg]
  | some o =>
    cases o with
    | lst xs => cases y <;> simp only [pIndex, hg] <;> rfl
    | dic lk es => simp only [pIndex, hg]; rfl
    | ins c fs => simp only [pIndex, hg]
theorem ix_all (O : XOk X G) : IX2 X G pIndex := by
  intro W value slice pins s σ H v w u1 u2 Q I r1 r2 ⟨φ, η, x, y, S, rx, ry, p⟩ hs
  have int : ∀ {xs : List Vl} {a : Addr} {vs : List V} {i : Int} {k : Nat}, v = .ref a → w = .int i → SqL G.K H a vs ∨ SqD G.K H a vs → RVs G.K φ H xs vs → Post G (RVl G) W φ H (oIx η (nthI xs i) k) Q → wpAny (model X.prog X.w) X.A (subscriptTail value slice u1 u2) (EP X pins σ Q) X.xe s := by
    rintro xs a vs i k rfl rfl hq R p
    obtain ⟨x, hn, p⟩ := oIx_ok p
    exact ix_seqI O I r1 r2 hq R hn (fun v rv => post_ok p S rv) hs
  cases rx with
  | @tup xs a vs hq hl hx =>
    cases ry with
    | int i => exact int rfl rfl (.inr hq) ⟨hl, hx⟩ (k := 101) p
    | _ => exact p.elim
  | @fl xs a vs hq hl hx =>
    cases ry with
    | int i => exact int rfl rfl (.inl hq.l) ⟨hl, hx⟩ (k := 101) p
    | _ => exact p.elim
  | str z =>
    cases ry with
    | int i =>
      have p : Post G (RVl G) W φ H (match Nat.ble z.length 10000 with | true => (match nthI z i with | some c => .ok (.str [c]) η | none => .bad 104) | false => .bad 104) Q := p
      cases hz : Nat.ble z.length 10000 with
      | false => rw [hz] at p; exact p.elim
      | true =>
        rw [hz] at p
        cases hn : nthI z i with
        | none => simp only [hn] at p; exact p.elim
        | some c =>
          simp only [hn] at p
          rw [nthI_eq] at hn
          exact ix_str value slice pins s σ H _ _ _ _ Q I r1 r2 ⟨strOf z, i, c, rfl, rfl, line1000 (Nat.le_of_ble_eq_true hz), hn, post_ok p S (.str [c])⟩ hs
    | _ => exact p.elim
  | @loc m a hn =>
    have dic : ∀ {lk : Bool} {es : List (Vl × Vl)}, η.get m = some (.dic lk es) → RV G.K φ H y w → Post G (RVl G) W φ H (dIx η es y) Q → wpAny (model X.prog X.w) X.A (subscriptTail value slice u1 u2) (EP X pins σ Q) X.xe s := by
      intro lk es hg ry p
      obtain ⟨hk, v, hd, p⟩ := dIx_ok p
      obtain ⟨xs, _, d, r, _⟩ := dicAt O I S hn hg
      have dd := r.dict O I d
      obtain ⟨b, rfl, hb⟩ := key_is O I hk ry r2
      obtain ⟨pr, w', h1, h2, h3⟩ := r.has hd
      cases (show u1 = Value.ref a from r1)
      exact tail_any dd.typeIs PySem.F.slot_dict_getitem.lookup (wpAny_getItem_heap (room8 O) hb dd h1 ⟨w', H, I.tok _, h3, post_ok p S h2⟩) hs
    rw [pIndex_loc] at p
    have p0 := p
    unfold pIndexL at p0
    cases hg : η.get m with
    | none => simp only [hg] at p0; exact p0.elim
    | some o =>
      simp only [hg] at p0
      cases o with
      | ins _ _ => exact p0.elim
      | lst xs =>
        obtain ⟨vs, hH, R⟩ := locList S hn hg
        cases ry with
        | int i => exact int rfl rfl (.inl (SqL.of hH)) R p0
        | _ => exact p0.elim
      | dic lk es => exact dic hg ry p0
  | _ => exact p.elim

theorem any_beq (c : Nat) (z : List Nat) : z.any (Nat.beq c) = decide (c ∈ z) := by
  rw [Bool.eq_iff_iff, List.any_eq_true, decide_eq_true_iff]
  constructor
  · rintro ⟨y, hy, e⟩
    rw [Nat.eq_of_beq_eq_true e]; exact hy
  · intro h
    exact ⟨c, h, Nat.beq_refl c⟩
theorem in_all (O : XOk X G) (neg : Bool) {v w : V} {u1 u2 : Value} {Q : VK} {x y : Vl} (I : Inv X pins σ H s) (r1 : RelV v u1) (r2 : RelV w u2) (S : Sim G φ η H) (rx : RV G.K φ H x v) (ry : RV G.K φ H y w) {b : Bool}
    (hb : inOf η x y = some b) (q : Q (.bl (if neg then !b else b)) H) : wpAny (model X.prog X.w) X.A (compareOp (if neg then .NotIn else .In) u1 u2) (EP X pins σ Q) X.xe s := by
  have seq : ∀ {a : Addr} {xs : List Vl} {vs : List V}, w = .ref a → memL η x xs = some b → RVs G.K φ H xs vs → SqL X.K H a vs ∨ SqT X.K H a vs → wpAny (model X.prog X.w) X.A (compareOp (if neg then .NotIn else .In) u1 u2) (EP X pins σ Q) X.xe s := by
    rintro a xs vs rfl hm R hq
    cases (show u2 = Value.ref a from r2)
    rcases hq with hq | hq
    · obtain ⟨its, r, pl, hz⟩ := I.list hq
      obtain ⟨m1, m2⟩ := mem_rel O I S hm rx r1 R r
      cases neg with
      | false =>
        refine SeqAt.in_listAt (eqF G φ η H x) pl.isList m1 ⟨.bl _, H, I, rfl, ?_⟩
        rw [m2]; exact q
      | true =>
        refine SeqAt.notIn_listAt (eqF G φ η H x) pl.isList m1 ⟨.bl _, H, I, rfl, ?_⟩
        rw [m2]; exact q
    · obtain ⟨its, r, pl, hz⟩ := I.tuple hq
      obtain ⟨m1, m2⟩ := mem_rel O I S hm rx r1 R r
      cases neg with
      | false =>
        refine SeqAt.in_tupleAt (eqF G φ η H x) pl m1 ⟨.bl _, H, I, rfl, ?_⟩
        rw [m2]; exact q
      | true =>
        refine SeqAt.notIn_tupleAt (eqF G φ η H x) pl m1 ⟨.bl _, H, I, rfl, ?_⟩
        rw [m2]; exact q
  cases ry with
  | @tup xs a vs hq hl hx => exact seq rfl hb ⟨hl, hx⟩ (.inr (by rw [O.K]; exact hq.t))
  | str z =>
    cases rx with
    | str t =>
      cases t with
      | nil => cases hb
      | cons c t => cases t with
        | cons _ _ => cases hb
        | nil =>
          have hb : some (z.any (Nat.beq c)) = some b := hb
          have e : b = decide (c ∈ (strOf z).cps.toList) := by
            cases hb
            rw [any_beq]
            have : (strOf z).cps.toList = z := by simp [strOf]
            rw [this]
          subst e
          cases neg with
          | false => exact op_in_sign pins s σ H _ _ _ _ Q I r1 r2 ⟨c, strOf z, rfl, rfl, q⟩
          | true => exact op_notIn_sign pins s σ H _ _ _ _ Q I r1 r2 ⟨c, strOf z, rfl, rfl, q⟩
    | _ => cases hb
  | @loc m a hn =>
    have hb : (match η.get m with
      | some (.lst xs) => memL η x xs
      | some (.dic _ es) => (match kdk x with
        | true => (match dget x es with
          | some r => some r.isSome
          | none => none)
        | false => none)
      | _ => none) = some b := hb
    cases hg : η.get m with
    | none => rw [hg] at hb; cases hb
    | some o =>
      simp only [hg] at hb
      cases o with
      | ins _ _ => cases hb
      | lst xs =>
        obtain ⟨vs, hH, R⟩ := locList S hn hg
        exact seq rfl hb R (.inl (SqL.of hH))
      | dic lk es =>
        simp only at hb
        cases hk : kdk x with
        | false => simp only [hk] at hb; cases hb
        | true =>
          simp only [hk] at hb
          cases hd : dget x es with
          | none => simp only [hd] at hb; cases hb
          | some r0 =>
            simp only [hd] at hb
            cases hb
            obtain ⟨xs, hs, d, r, _⟩ := dicAt O I S hn hg
            have dd := r.dict O I d
            obtain ⟨b, rfl, hb⟩ := key_is O I hk rx r1
            cases (show u2 = Value.ref a from r2)
            have e : (atKey (xs.map nx) (nk x)).isSome = r0.isSome := by
              cases r0 with
              | none => rw [r.hasNot hk hd]; rfl
              | some z => obtain ⟨pr, w', h1, _⟩ := r.has hd; rw [h1]; rfl
            cases neg with
            | false =>
              refine wpAny_in_heap (room8 O) hb hs dd ⟨.bl _, H, I.tok _, rfl, ?_⟩
              rw [e]; exact q
            | true =>
              refine wpAny_notIn_heap (room8 O) hb hs dd ⟨.bl _, H, I.tok _, rfl, ?_⟩
              rw [e]; exact q
  | _ => cases hb
theorem p_in (O : XOk X G) : OP2 X G (compareOp .In) pIn := fun W pins s σ H v w u1 u2 Q I r1 r2 ⟨φ, η, x, y, S, rx, ry, p⟩ => by
  have p : Post G (RVl G) W φ H (bv (inOf η x y) η) Q := p
  cases hb : inOf η x y with
  | none => rw [hb] at p; exact p.elim
  | some b =>
    rw [hb] at p
    exact in_all O false I r1 r2 S rx ry hb (post_ok p S (.bl b))
theorem p_notIn (O : XOk X G) : OP2 X G (compareOp .NotIn) pNotIn := fun W pins s σ H v w u1 u2 Q I r1 r2 ⟨φ, η, x, y, S, rx, ry, p⟩ => by
  have p : Post G (RVl G) W φ H (nv (inOf η x y) η) Q := p
  cases hb : inOf η x y with
  | none => rw [hb] at p; exact p.elim
  | some b =>
    rw [hb] at p
    exact in_all O true I r1 r2 S rx ry hb (post_ok p S (.bl (!b)))

theorem frN_ok {W : Value → Option Addr → Hp → Prop} {n : Nat} {Q : VK} (p : Post G (RVl G) W φ H (frN n fun n => .ok (.int (.ofNat n)) η) Q) (S : Sim G φ η H) : Q (.int (n : Nat)) H := by
  rw [frN_eq] at p
  exact post_ok p S (.int _)
theorem c_len (O : XOk X G) : CR1 X G (.builtin "len") pLen := fun W pins s σ H vs us Q I rs ⟨v, φ, η, x, e, S, rx, p⟩ => by
  subst e
  have p : Post G (RVl G) W φ H (match lenOf η x with | some n => frN n fun n => .ok (.int (.ofNat n)) η | none => .bad 55) Q := p
  cases rx with
  | @tup xs a vs hq hl hx =>
    exact call_len_seq pins s σ H _ us Q I rs ⟨a, vs, rfl, .inr (by rw [O.K]; exact hq.t), by rw [← hl]; exact frN_ok p S⟩
  | @fl xs a vs hq hl hx =>
    exact call_len_seq pins s σ H _ us Q I rs ⟨a, vs, rfl, .inl (by rw [O.K]; exact hq.l), by rw [← hl]; exact frN_ok p S⟩
  | str z =>
    have p : Post G (RVl G) W φ H (match (match Nat.ble z.length 10000 with | true => some z.length | false => none) with | some n => frN n fun n => .ok (.int (.ofNat n)) η | none => .bad 55) Q := p
    cases hz : Nat.ble z.length 10000 with
    | false => rw [hz] at p; exact p.elim
    | true =>
      rw [hz] at p
      exact call_len_str pins s σ H _ us Q I rs ⟨strOf z, rfl, line1000 (Nat.le_of_ble_eq_true hz), by rw [strOf_len]; exact frN_ok p S⟩
  | @loc m a hn =>
    have p : Post G (RVl G) W φ H (match (match η.get m with
      | some (.lst xs) => some xs.length
      | some (.dic _ es) => some es.length
      | _ => none) with | some n => frN n fun n => .ok (.int (.ofNat n)) η | none => .bad 55) Q := p
    cases hg : η.get m with
    | none => rw [hg] at p; exact p.elim
    | some o =>
      simp only [hg] at p
      cases o with
      | ins _ _ => exact p.elim
      | lst xs =>
        obtain ⟨vs, hH, R⟩ := locList S hn hg
        exact call_len_seq pins s σ H _ us Q I rs ⟨a, vs, rfl, .inl (SqL.of hH), by rw [← R.1]; exact frN_ok p S⟩
      | dic lk es =>
        simp only at p
        obtain ⟨xs, hs, d, r, _⟩ := dicAt O I S hn hg
        have dd := r.dict O I d
        obtain ⟨u, rfl, ru⟩ := vals1 rs
        cases (show u = Value.ref a from ru)
        have hl : (xs.map nx).length = es.length := by rw [List.length_map, r.1]
        refine call_len_dictH hs dd ?_ ⟨.int es.length, H, I.tok _, ⟨_, by rw [hl]⟩, frN_ok p S⟩
        have := r.2.1
        have h2 := line63
        rw [hl]; omega
  | _ => exact p.elim
end
end FP
end
section
namespace FP
open PySem PySem.Spec PyProof.Rows L2 PySem.SeqAt

section
variable {X : Cx} {G : Gd} {pins : List (Addr × Obj)} {s : Shared} {σ : L2.St} {H : Hp} {φ : List Addr} {η : He}
theorem DN.stay {a : Addr} {xs : List (Vl × Value × Value)} {h1 h2 : Heap} (d : DN G a xs h1) (k : ∀ o, h1.get? a = some o → h2.get? a = some o) : DN G a xs h2 := by
  obtain ⟨o, es, ep, e, c⟩ := d
  exact ⟨o, es, ep, k o e, c⟩
theorem DN.okH {P : Program} {w : World} {H : Hp} {a : Addr} {xs : List (Vl × Value × Value)} {h : Heap} (d : DN G a xs h) : ObjOk P w H h a (.ext (DN G a xs)) := by
  refine ⟨d, ?_, fun h1 h2 d k => d.stay k⟩
  obtain ⟨o, es, ep, e, c⟩ := d
  exact ⟨o, e⟩
theorem DN.exact {a : Addr} {xs : List (Vl × Value × Value)} : ∀ h : Heap, DN G a xs h → ∃ o, h.get? a = some o ∧ o.ExactDict := fun h ⟨o, es, ep, e, c, _⟩ => ⟨o, e, c⟩
/-- d[k] = v -/
theorem d_put (O : XOk X G) (I : Inv X pins σ H s) (S : Sim G φ η H) {m : Nat} {a : Addr} {es z : List (Vl × Vl)} {k v : Vl} {w w' : V} {u u' : Value} {E : Value → Shared → Prop} {Q : Unit → Shared → Prop}
    (hn : φ[m]? = some a) (hg : η.get m = some (.dic false es)) (hk : kdk k = true) (rk : RV G.K φ H k w) (r1 : RelV w u) (rv : RV G.K φ H v w') (r2 : RelV w' u') (hd : dput k v es = some z) (hf : few es = true)
    (h : ∀ s' H', Inv X pins σ H' s' → Evo φ H φ H' → Sim G φ (η.set m (.dic false z)) H' → Q () s') : wpAny (model X.prog X.w) X.A (setItem (.ref a) u u') Q E s := by
  obtain ⟨xs, hs, d, r, he, _⟩ := dicAt O I S hn hg
  have dd := r.dict O I d
  obtain ⟨b, rfl, hb⟩ := key_is O I hk rk r1
  have hl := few_le hf
  have ls : (10000 : Nat) < sizeLine := by decide
  obtain ⟨ys, e1, r'⟩ := r.put hk rk r1 rv r2 hd (by omega)
  refine wpAny_setItem_heap (hsz := by rw [List.length_map, ← r.1]; omega) (room8 O) hb dd fun h' dd' hsb => ?_
  rw [show storedH (xs.map nx) (nk k) b u' = ys.map nx from e1] at dd'
  have dn := DN.of O r' dd'
  have ev : Evo φ H φ (L2.upd H a (.ext (DN G a ys))) := Evo.set (mem_at hn) (he rfl) trivial
  refine h _ (L2.upd H a (.ext (DN G a ys))) ?_ ev ?_
  · refine d_write I (by rw [he rfl]; exact True.intro) hsb ?_ dn.okH
    obtain ⟨o, _, _, e, _⟩ := dn
    exact ⟨o, e⟩
  · refine S.set hn hg ⟨_, upd_same, RD.evo ev S.trk ⟨hs, ys, rfl, r'⟩⟩

def setO (o i v : Vl) (h : He) : Option He := match o with
  | .loc q => match h.get q with
    | some (.lst xs) => match i with
      | .int i => match ixOf i xs.length with
        | some j => some (h.set q (.lst (put xs j v)))
        | none => none
      | _ => none
    | some (.dic lk es) => match lk with
      | true => none
      | false => match kdk i with
        | true => match few es with
          | true => match dput i v es with
            | some z => some (h.set q (.dic false z))
            | none => none
          | false => none
        | false => none
    | _ => none
  | _ => none
theorem setO_of {n : Nat} {Q : L2.St → Hp → Prop} {o i v : Vl} {k : He → Rs Env} (p : PostG G n φ H (setIx o i v η k) Q) : ∃ η', setO o i v η = some η' ∧ PostG G n φ H (k η') Q := by
  unfold setIx at p
  cases o with
  | loc q =>
    simp only at p
    cases hg : η.get q with
    | none => simp only [hg] at p; exact p.elim
    | some o =>
      simp only [hg] at p
      cases o with
      | ins _ _ => exact p.elim
      | lst xs =>
        cases i with
        | int i =>
          simp only at p
          cases hi : ixOf i xs.length with
          | none => simp only [hi] at p; exact p.elim
          | some j =>
            simp only [hi] at p
            exact ⟨_, by simp only [setO, hg, hi], p⟩
        | _ => exact p.elim
      | dic lk es =>
        cases lk with
        | true => exact p.elim
        | false =>
          simp only at p
          cases hk : kdk i with
          | false => simp only [hk] at p; exact p.elim
          | true =>
            simp only [hk] at p
            cases hf : few es with
            | false => simp only [hf] at p; exact p.elim
            | true =>
              simp only [hf] at p
              cases hd : dput i v es with
              | none => simp only [hd] at p; exact p.elim
              | some z =>
                simp only [hd] at p
                exact ⟨_, by simp only [setO, hg, hk, hf, hd], p⟩
  | _ => exact p.elim
theorem ixOf_eq (i : Int) (n : Nat) {j : Nat} (h : ixOf i n = some j) : ixN n i = some j := by
  unfold ixOf at h
  unfold ixN
  cases i with
  | ofNat k =>
    simp only at h
    cases hb : Nat.blt k n with
    | false => rw [hb] at h; cases h
    | true =>
      rw [hb] at h
      have := blt_lt hb
      have a1 : (0 : Int) ≤ Int.ofNat k := Int.natCast_nonneg _
      have a2 : Int.ofNat k < (n : Int) := Int.ofNat_lt.mpr this
      rw [if_pos a1, if_pos a2]
      exact h
  | negSucc k =>
    simp only at h
    cases hb : Nat.blt k n with
    | false => rw [hb] at h; cases h
    | true =>
      rw [hb] at h
      cases h
      have := blt_lt hb
      rw [if_neg (by omega), if_pos (by omega)]
      congr 1
      show _ = n - 1 - k
      omega
theorem put_eq {α : Type} : ∀ (xs : List α) (j : Nat) (v : α), put xs j v = xs.set j v
  | [], _, _ => by simp [put]
  | x :: xs, 0, v => rfl
  | x :: xs, j + 1, v => by
    show x :: put xs j v = x :: xs.set j v
    rw [put_eq xs j v]
theorem RVs.set {K : PySem.W.Frag} {φ : List Addr} {H : Hp} {xs : List Vl} {vs : List V} (R : RVs K φ H xs vs) (j : Nat) {x : Vl} {v : V} (r : RV K φ H x v) : RVs K φ H (xs.set j x) (vs.set j v) := by
  refine ⟨by simp [R.1], fun i y w hy hw => ?_⟩
  by_cases e : j = i
  · subst e
    have hl : j < xs.length := by have := (List.getElem?_eq_some_iff.mp hy).1; simpa using this
    rw [List.getElem?_set_self hl] at hy
    rw [List.getElem?_set_self (by rw [← R.1]; exact hl)] at hw
    cases hy; cases hw; exact r
  · rw [List.getElem?_set_ne e] at hy hw
    exact R.2 i y w hy hw
def tSetA (G : Gd) : TSet := fun o i v H Q => ∃ φ η x y z η', Sim G φ η H ∧ RV G.K φ H x o ∧ RV G.K φ H y i ∧ RV G.K φ H z v ∧ setO x y z η = some η' ∧ ∀ H', Evo φ H φ H' → Sim G φ η' H' → Q H'
theorem set_all (O : XOk X G) : PSet X (tSetA G) := by
  intro pins s σ H o i v ov iv u Q I r1 r2 r3 ⟨φ, η, x, y, z, η', S, rx, ry, rz, h, q⟩
  cases rx with
  | @loc m a hn =>
    unfold setO at h
    simp only at h
    cases hg : η.get m with
    | none => simp only [hg] at h; cases h
    | some ob =>
      simp only [hg] at h
      cases ob with
      | ins _ _ => cases h
      | lst xs =>
        cases ry with
        | int k =>
          simp only at h
          cases hi : ixOf k xs.length with
          | none => simp only [hi] at h; cases h
          | some j =>
            simp only [hi] at h
            cases h
            obtain ⟨vs, hH, R⟩ := locList S hn hg
            refine set_list pins s σ H _ _ _ ov iv u Q I r1 r2 r3 ⟨a, vs, k, j, rfl, rfl, hH, by rw [← R.1]; exact ixOf_eq _ _ hi, q _ (Evo.set (mem_at hn) hH trivial) ?_⟩
            rw [put_eq]
            exact S.setL hn hg (R.set j rz)
        | _ => cases h
      | dic lk es =>
        cases lk with
        | true => cases h
        | false =>
          simp only at h
          cases hk : kdk y with
          | false => simp only [hk] at h; cases h
          | true =>
            simp only [hk] at h
            cases hf : few es with
            | false => simp only [hf] at h; cases h
            | true =>
              simp only [hf] at h
              cases hd : dput y z es with
              | none => simp only [hd] at h; cases h
              | some zz =>
                simp only [hd] at h
                cases h
                cases (show ov = Value.ref a from r1)
                exact d_put O I S hn hg hk ry r2 rz r3 hd hf fun s' H' I' ev S' => ⟨H', I', q H' ev S'⟩
  | _ => cases h
/-- no slice -/
def plainIx : Expr → Bool
  | .Slice _ _ _ _ => false
  | _ => true
theorem plainIx_of {b : Expr} (h : plainIx b = true) : PlainIx b := by cases b <;> first | exact fun _ _ => rfl | cases h
theorem assign_plain {o i : Expr} {pos : Pos} {env : PySem.Env} (h : plainIx i = true) (v : Value) : assign (.Subscript o i pos) env v = (do
      let ov ← holding [v] (eval o env)
      let iv ← holding [v, ov] (eval i env)
      standAt pos
      holding [v, ov, iv] (setItem ov iv v)
      release [v, ov, iv] []) := by cases i <;> first | rfl | cases h
theorem g_sub (O : XOk X G) {W0 : WX} (tk0 : Takes X W0) {o i : Expr} {f g : EvE} {pos : Pos} {L : List Nat} (hp : plainIx i = true) (ho : SE X G o f) (hi : SE X G i g) : SG X G L (.Subscript o i pos) (FP.gSub f g) := by
  refine pgWeak (pg_sub (ho W0 tk0) (hi W0 tk0) (set_all O) (assign_plain hp)) fun v σ H Q ⟨φ, η, r, z, S, E, R, p⟩ => ?_
  refine ⟨φ, η, r, S, E, (postN (R := RVl G) (k := fun ov h => (g r h).bindN fun iv h => setIx ov iv z h fun h => .ok r h) p).imp ?_⟩
  rintro x H1 ⟨φ1, η1, xv, ev1, S1, R1, p1⟩
  have E1 := E.evo ev1 S.trk
  refine ⟨φ1, η1, r, S1, E1, (postN (R := RVl G) (k := fun iv h => setIx xv iv z h fun h => .ok r h) p1).imp ?_⟩
  rintro y H2 ⟨φ2, η2, yv, ev2, S2, R2, p2⟩
  have E2 := E1.evo ev2 S1.trk
  obtain ⟨η', h, p3⟩ := setO_of p2
  exact ⟨φ2, η2, xv, yv, z, η', S2, R1.evo ev2 S1.trk, R2, (R.evo ev1 S.trk).evo ev2 S1.trk, h, fun H' ev S' => p3 φ2 H' σ ev S' (E2.evo ev S2.trk) rfl⟩

theorem s_dic0 (O : XOk X G) {pos : Pos} : SE X G (.Dict [] [] pos) eDic0 := fun W tk => by
  refine ⟨fun pins s σ H Q I ⟨φ, η, r, S, E, p⟩ => ?_⟩
  have hb : (s.heap.objs.size == sysModules) = false := beq_eq_false_iff_ne.mpr (Ne.symm (Nat.ne_of_lt I.big))
  have dn : DN G s.heap.objs.size [] (s.heap.push { cls := .type "dict", data := .dict #[] }) := ⟨_, #[], 0, Heap.get?_push_size _ rfl, ⟨rfl, rfl, rfl⟩, rfl, rfl⟩
  have hp : H s.heap.objs.size = none := I.hok.fresh (Nat.le_refl _)
  refine wpAny_Dict_empty ⟨.ref s.heap.objs.size, _, I.laid (a := s.heap.objs.size) (o := .ext (DN G s.heap.objs.size [])) (t' := s.toks) (fun _ _ q => Heap.get?_push_of_some _ q) (Nat.le_refl _) dn.okH, rfl, ?_⟩
  have p : Post G (RVl G) (fun c d H' => W c d σ H') φ H (newD [] η) Q := p
  unfold newD at p
  rw [He.new_eq] at p
  have ev : Evo φ H φ (L2.upd H s.heap.objs.size (.ext (DN G s.heap.objs.size []))) := Evo.upd hp
  refine p _ _ _ (ev.add hp) ((S.upd hp).new (S.notIn hp) ⟨_, upd_same, hb, [], rfl, rfl, Nat.zero_le _, List.nodup_nil, fun i p q h => by simp at h⟩) (.loc ?_)
  rw [List.getElem?_append_right (by rw [S.len]; exact Nat.le_refl _), S.len, Nat.sub_self]; rfl
end
end FP
end
section
namespace FP
open PySem PySem.Spec PyProof.Rows L2 PySem.SeqAt

section
variable {X : Cx} {G : Gd}
theorem dicOf_rel {φ : List Addr} {η : He} {H : Hp} {x : Vl} {v : V} {q : Nat} {es : List (Vl × Vl)} (S : Sim G φ η H) (r : RV G.K φ H x v) (h : dicOf η x = some (q, es)) : ∃ a xs, x = .loc q ∧ v = .ref a ∧ φ[q]? = some a ∧ η.get q = some (.dic false es) ∧ H a = some (.ext (DN G a xs)) := by
  cases r with
  | @loc m a hn =>
    unfold dicOf at h
    simp only at h
    cases hg : η.get m with
    | none => simp only [hg] at h; cases h
    | some o =>
      cases o with
      | lst xs => simp only [hg] at h; cases h
      | ins _ _ => simp only [hg] at h; cases h
      | dic lk es' =>
        simp only [hg] at h
        cases lk with
        | true => cases h
        | false =>
          cases h
          have ho := S.ob _ _ hn
          obtain ⟨o, ho, ro⟩ := ho
          rw [hg] at ho
          cases ho
          obtain ⟨u, h1, hs, xs, rfl, _⟩ := ro
          exact ⟨a, xs, rfl, rfl, hn, hg, h1⟩
  | _ => cases h
theorem isDic_rel {φ : List Addr} {η : He} {H : Hp} {x : Vl} {v : V} (S : Sim G φ η H) (r : RV G.K φ H x v) (h : isDic η x = true) : ∃ q a xs, x = .loc q ∧ v = .ref a ∧ φ[q]? = some a ∧ H a = some (.ext (DN G a xs)) := by
  cases r with
  | @loc m a hn =>
    unfold isDic at h
    simp only at h
    cases hg : η.get m with
    | none => simp only [hg] at h; cases h
    | some o =>
      cases o with
      | lst xs => simp only [hg] at h; cases h
      | ins _ _ => simp only [hg] at h; cases h
      | dic lk es' =>
        simp only [hg] at h
        cases lk with
        | true => cases h
        | false =>
          have ho := S.ob _ _ hn
          obtain ⟨o, ho, ro⟩ := ho
          rw [hg] at ho
          cases ho
          obtain ⟨u, h1, hs, xs, rfl, _⟩ := ro
          exact ⟨m, a, xs, rfl, rfl, hn, h1⟩
  | _ => cases h
theorem kindD {K : PySem.W.Frag} {H : Hp} {a : Addr} {xs : List (Vl × Value × Value)} (h : H a = some (.ext (DN G a xs))) : KindV K "dict" (.ref a) H := .inr (.inr ⟨rfl, a, _, rfl, h, DN.exact⟩)
structure DM (X : Cx) (G : Gd) (name : Str) (id : String) (n : Nat) (p : List Vl → He → Rs Vl) : Prop where
  slot : Slot "dict" name id
  ty : typeOf (.builtin id) = pure (.type "method_descriptor")
  run : MR X G id n p
theorem DM.m {name : Str} {id : String} {n : Nat} {p : List Vl → He → Rs Vl} (M : DM X G name id n p) (W : Value → Option Addr → Hp → Prop) : Mth X "dict" name id fun x vs H Q => ∃ φ η a ys, Sim G φ η H ∧ RV G.K φ H a x ∧ RVs G.K φ H ys vs ∧ ys.length = n ∧ Post G (RVl G) W φ H (p (a :: ys) η) Q := ⟨PySem.F.plainAttrs_dict, M.slot, M.ty, M.run W⟩
theorem s_D2 {o e : Expr} {f g : EvE} {name : Str} {id : String} {p : P2} {apos cpos : Pos} (M : DM X G name id 1 (of2 p)) (ho : SE X G o f) (he : SE X G e g) (hn : ∀ v p, e ≠ .Starred v p) (hb : plainBase o = true) (hline : (apos.endLine == cpos.line) = true) : SE X G (.Call (.Attribute o name apos) [e] [] cpos) (eD2 p f g) := fun W tk => by
  refine ⟨fun pins s σ H Q I h => (pe_bmF (name := name) (ho W tk) (pa_cons (he W tk) pa_nil (starEach_cons hn)) hb (NoStar.one hn) (by simp) hline).run pins s σ H Q I ?_⟩
  refine (rd_bind (R := RVl G) (k := fun v r h => match isDic h v with | true => (g r h).bind fun w h => p v w h | false => .bad 235) h).imp ?_
  rintro v H1 ⟨φ1, η1, r1, x, S1, E1, R1, p1⟩
  cases hl : isDic η1 x with
  | false => simp only [hl] at p1; exact p1.elim
  | true =>
    simp only [hl] at p1
    obtain ⟨q, a, vs, rfl, rfl, hn, hH⟩ := isDic_rel S1 R1 hl
    refine ⟨"dict", id, _, M.m fun c d H' => W c d σ H', kindD hH, ?_⟩
    refine (post_bind (R := RVl G) (fa := g) (k := fun w h => p (.loc q) w h) S1 E1 p1).imp ?_
    rintro w H2 ⟨φ2, η2, y, ev, S2, E2, R2, p2⟩
    exact ⟨φ2, η2, .loc q, [y], S2, R1.evo ev S1.trk, RVs.cons R2 RVs.nil, rfl, p2⟩
theorem s_D3 {o e e' : Expr} {f g g' : EvE} {name : Str} {id : String} {p : P3} {apos cpos : Pos} (M : DM X G name id 2 (of3 p)) (ho : SE X G o f) (he : SE X G e g) (he' : SE X G e' g') (hn : ∀ v p, e ≠ .Starred v p) (hn' : ∀ v p, e' ≠ .Starred v p) (hb : plainBase o = true) (hline : (apos.endLine == cpos.line) = true) : SE X G (.Call (.Attribute o name apos) [e, e'] [] cpos) (eD3 p f g g') := fun W tk => by
  refine ⟨fun pins s σ H Q I h => (pe_bmF (name := name) (ho W tk) (pa_cons (he W tk) (pa_cons (he' W tk) pa_nil (starEach_cons hn')) (starEach_cons hn)) hb (NoStar.two hn hn') (by simp) hline).run pins s σ H Q I ?_⟩
  refine (rd_bind (R := RVl G) (k := fun v r h => match isDic h v with | true => (g r h).bind fun w h => (g' r h).bind fun u h => p v w u h | false => .bad 235) h).imp ?_
  rintro v H1 ⟨φ1, η1, r1, x, S1, E1, R1, p1⟩
  cases hl : isDic η1 x with
  | false => simp only [hl] at p1; exact p1.elim
  | true =>
    simp only [hl] at p1
    obtain ⟨q, a, vs, rfl, rfl, hn, hH⟩ := isDic_rel S1 R1 hl
    refine ⟨"dict", id, _, M.m fun c d H' => W c d σ H', kindD hH, ?_⟩
    refine (post_bind (R := RVl G) (fa := g) (k := fun w h => (g' r1 h).bind fun u h => p (.loc q) w u h) S1 E1 p1).imp ?_
    rintro w H2 ⟨φ2, η2, y, ev, S2, E2, R2, p2⟩
    refine (post_bind (R := RVl G) (fa := g') (k := fun u h => p (.loc q) y u h) S2 E2 p2).imp ?_
    rintro u H3 ⟨φ3, η3, z, ev3, S3, E3, R3, p3⟩
    exact ⟨φ3, η3, .loc q, [y, z], S3, (R1.evo ev S1.trk).evo ev3 S2.trk, RVs.cons (R2.evo ev3 S2.trk) (RVs.cons R3 RVs.nil), rfl, p3⟩

theorem entry_rel {φ : List Addr} {η : He} {H : Hp} {x k : Vl} {v : V} {o : Option Vl} (r : RV G.K φ H x v) (h : entry x k η = some o) : ∃ m a lk es, x = .loc m ∧ v = .ref a ∧ φ[m]? = some a ∧ η.get m = some (.dic lk es) ∧ kdk k = true ∧ dget k es = some o := by
  cases r with
  | @loc m a hn =>
    unfold entry at h
    simp only at h
    cases hg : η.get m with
    | none => simp only [hg] at h; cases h
    | some o =>
      cases o with
      | lst xs => simp only [hg] at h; cases h
      | ins _ _ => simp only [hg] at h; cases h
      | dic lk es =>
        simp only [hg] at h
        cases hk : kdk k with
        | false => simp only [hk] at h; cases h
        | true => simp only [hk] at h; exact ⟨m, a, lk, es, rfl, rfl, hn, hg, rfl, h⟩
  | _ => cases h
theorem m_get2 (O : XOk X G) : DM X G "get" "dict.get" 2 (of3 pGet2) := ⟨PySem.F.slot_dict_get, PySem.F.type_dict_get, fun W pins s σ H x vs u us Q I r1 rs ⟨φ, η, a, ys, S, ra, R, hl, pp⟩ => by
  match ys, R, hl, pp with
  | [y, z], R, _, p =>
    obtain ⟨w, _, rfl, rk, t⟩ := R.inv_cons
    obtain ⟨w2, _, rfl, rd, t⟩ := t.inv_cons
    cases t.inv_nil
    have p : Post G (RVl G) W φ H (match entry a y η with | some r => (match r with | some v => .ok v η | none => .ok z η) | none => .bad 143) Q := p
    cases he : entry a y η with
    | none => rw [he] at p; exact p.elim
    | some o =>
      rw [he] at p
      obtain ⟨m, b, lk, es, rfl, rfl, hn, hg, hk, hd⟩ := entry_rel ra he
      cases rs with
      | cons q1 rs => cases rs with
        | cons q2 rs =>
          cases rs
          cases (show u = Value.ref b from r1)
          obtain ⟨xs, hs, d, r, _⟩ := dicAt O I S hn hg
          have dd := r.dict O I d
          obtain ⟨c, rfl, hc⟩ := key_is O I hk rk q1
          refine call_meetsIn PySem.F.slot_dict_get dd.typeIs PySem.F.entry_dict_get (PySem.F.args_dict_get_3 _ _ _) (meetsH_dict_get_default (nestedKind X.prog X.w) b c hs _) ⟨room8 O, nk y, _, hc, dd, ?_⟩
          cases o with
          | none =>
            rw [r.hasNot hk hd]
            exact ⟨w2, H, I.tok _, q2, post_ok p S rd⟩
          | some v =>
            obtain ⟨pr, w', h1, h2, h3⟩ := r.has hd
            rw [h1]
            exact ⟨w', H, I.tok _, h3, post_ok p S h2⟩⟩
theorem m_get1 (O : XOk X G) : DM X G "get" "dict.get" 1 (of2 pGet1) := ⟨PySem.F.slot_dict_get, PySem.F.type_dict_get, fun W pins s σ H x vs u us Q I r1 rs ⟨φ, η, a, ys, S, ra, R, hl, pp⟩ => by
  match ys, R, hl, pp with
  | [y], R, _, p =>
    obtain ⟨w, _, rfl, rk, t⟩ := R.inv_cons
    cases t.inv_nil
    have p : Post G (RVl G) W φ H (match entry a y η with | some r => (match r with | some v => .ok v η | none => .ok .non η) | none => .bad 140) Q := p
    cases he : entry a y η with
    | none => rw [he] at p; exact p.elim
    | some o =>
      rw [he] at p
      obtain ⟨m, b, lk, es, rfl, rfl, hn, hg, hk, hd⟩ := entry_rel ra he
      cases rs with
      | cons q1 rs =>
        cases rs
        cases (show u = Value.ref b from r1)
        obtain ⟨xs, hs, d, r, _⟩ := dicAt O I S hn hg
        have dd := r.dict O I d
        obtain ⟨c, rfl, hc⟩ := key_is O I hk rk q1
        refine call_meetsIn PySem.F.slot_dict_get dd.typeIs PySem.F.entry_dict_get (PySem.F.args_dict_get_2 _ _) (meetsH_dict_get (nestedKind X.prog X.w) b c hs) ⟨room8 O, nk y, _, hc, dd, ?_⟩
        cases o with
        | none =>
          rw [r.hasNot hk hd]
          exact ⟨.non, H, I.tok _, rfl, post_ok p S .non⟩
        | some v =>
          obtain ⟨pr, w', h1, h2, h3⟩ := r.has hd
          rw [h1]
          exact ⟨w', H, I.tok _, h3, post_ok p S h2⟩⟩

theorem RDT.tail {φ : List Addr} {H : Hp} {p : Vl × Vl} {es : List (Vl × Vl)} {q : Vl × Value × Value} {xs : List (Vl × Value × Value)} (r : RDT G φ H (p :: es) (q :: xs)) : RDT G φ H es xs := by
  have h1 := r.1
  have h2 := r.2.1
  have h3 := (List.nodup_cons.mp (show ((q.1 :: xs.map (·.1)).Nodup) from r.2.2.1)).2
  simp only [List.length_cons] at h1 h2
  exact ⟨by omega, by omega, h3, fun i p' q' e1 e2 => r.2.2.2 (i + 1) p' q' e1 e2⟩
theorem dputs_some {φ : List Addr} {H : Hp} : ∀ {fs : List (Vl × Vl)} {es z : List (Vl × Vl)} {xs gs : List (Vl × Value × Value)}, RDT G φ H es xs → RDT G φ H fs gs → dputs es fs = some z → es.length + fs.length ≤ sizeLine →
    ∃ ys, storedAllH (xs.map nx) (gs.map nx) = ys.map nx ∧ RDT G φ H z ys
  | [], es, z, xs, gs, r, rf, h, _ => by
    cases h
    have hl := rf.1
    cases gs with
    | nil => exact ⟨xs, rfl, r⟩
    | cons _ _ => cases hl
  | p :: fs, es, z, xs, gs, r, rf, h, hz => by
    cases gs with
    | nil => have hl := rf.1; cases hl
    | cons q gs =>
      have h' : (match dput p.1 p.2 es with | some z => dputs z fs | none => none) = some z := h
      cases hd : dput p.1 p.2 es with
      | none => rw [hd] at h'; cases h'
      | some y =>
        rw [hd] at h'
        obtain ⟨e1, hk, ⟨v, k1, k2⟩, v', k3, k4⟩ := rf.2.2.2 0 p q rfl rfl
        simp only [List.length_cons] at hz
        obtain ⟨ys, s1, r1⟩ := r.put hk k1 k2 k3 k4 hd (by omega)
        have ly : y.length ≤ es.length + 1 := by
          rcases dput_some hd with ⟨_, rfl⟩ | ⟨_, _, _, rfl⟩ <;> simp
        obtain ⟨zs, s2, r2⟩ := dputs_some r1 rf.tail h' (by omega)
        refine ⟨zs, ?_, r2⟩
        rw [List.map_cons]
        show storedAllH (storedH (xs.map nx) (nk q.1) (adr q.2.1) q.2.2) (gs.map nx) = _
        rw [← e1, s1, s2]
theorem updE_some {es fs z : List (Vl × Vl)} (h : updE es fs = some z) : dputs es fs = some z ∧ es.length + fs.length ≤ sizeLine ∧ (es ≠ [] ∨ fs = []) := by
  unfold updE at h
  cases hsh : sh2 es fs with
  | false => rw [hsh] at h; cases h
  | true =>
    rw [hsh] at h
    have hsz := sh2_le hsh
    cases es with
    | cons e es => exact ⟨h, hsz, .inl (fun e => nomatch e)⟩
    | nil => cases fs with
      | nil => exact ⟨h, hsz, .inr rfl⟩
      | cons _ _ => cases h
theorem m_update (O : XOk X G) : DM X G "update" "dict.update" 1 (of2 pUpdate) := ⟨PySem.F.slot_dict_update, PySem.F.type_dict_update, fun W pins s σ H x vs u us Q I r1 rs ⟨φ, η, a, ys, S, ra, R, hl, pp⟩ => by
  match ys, R, hl, pp with
  | [y], R, _, p0 =>
    obtain ⟨w, _, rfl, rk, t⟩ := R.inv_cons
    cases t.inv_nil
    have p : Post G (RVl G) W φ H (match dicOf η a with
      | some (q, es) => (match dicOf η y with
        | some (r, fs) => (match Nat.beq q r with
          | true => .bad 149
          | false => (match updE es fs with
            | some z => .ok .non (η.set q (.dic false z))
            | none => .bad 149))
        | none => .bad 150)
      | none => .bad 151) Q := p0
    clear p0
    cases h1 : dicOf η a with
    | none => rw [h1] at p; exact p.elim
    | some q1 =>
      obtain ⟨q, es⟩ := q1
      rw [h1] at p
      cases h2 : dicOf η y with
      | none => simp only [h2] at p; exact p.elim
      | some q2 =>
        obtain ⟨r, fs⟩ := q2
        simp only [h2] at p
        cases hb : Nat.beq q r with
        | true => simp only [hb] at p; exact p.elim
        | false =>
          simp only [hb] at p
          cases hu : updE es fs with
          | none => simp only [hu] at p; exact p.elim
          | some z =>
            simp only [hu] at p
            obtain ⟨b, _, rfl, rfl, hn1, hg1, hH1⟩ := dicOf_rel S ra h1
            obtain ⟨c, _, rfl, rfl, hn2, hg2, hH2⟩ := dicOf_rel S rk h2
            cases rs with
            | cons q1 rs =>
              cases rs
              cases (show u = Value.ref b from r1)
              cases (show _ = Value.ref c from q1)
              obtain ⟨xs, hs, d, rr, he, _⟩ := dicAt O I S hn1 hg1
              obtain ⟨gs, hs2, d2, rr2, _⟩ := dicAt O I S hn2 hg2
              have dd := rr.dict O I d
              have dd2 := rr2.dict O I d2
              have hbc : b ≠ c := fun e => by
                subst e
                have hqr : q = r := (List.getElem?_inj (List.getElem?_eq_some_iff.mp hn1).1 S.nd).mp (hn1.trans hn2.symm)
                subst hqr
                rw [Nat.beq_refl] at hb
                cases hb
              obtain ⟨hu, hsz, hnil⟩ := updE_some hu
              obtain ⟨zs, s1, r'⟩ := dputs_some rr rr2 hu hsz
              refine call_update_dictH (room8 O) hbc hs2 dd dd2 ?_ (by rw [List.length_map, List.length_map, ← rr.1, ← rr2.1]; exact hsz) fun h' dd' _ hsb => ?_
              · rcases hnil with hnil | rfl
                · refine .inl fun e => ?_
                  have := rr.1
                  rw [List.map_eq_nil_iff] at e
                  subst e
                  exact hnil (List.eq_nil_of_length_eq_zero this)
                · have := rr2.1
                  have hg : gs = [] := List.eq_nil_of_length_eq_zero this.symm
                  subst hg
                  exact .inr ⟨(fun x m => nomatch m), List.nodup_nil⟩
              · rw [s1] at dd'
                have dn := DN.of O r' dd'
                have ev : Evo φ H φ (L2.upd H b (.ext (DN G b zs))) := Evo.set (mem_at hn1) (he rfl) trivial
                refine ⟨.non, L2.upd H b (.ext (DN G b zs)), ?_, rfl, p φ _ .non ev ?_ .non⟩
                · have hex : ∃ q, h'.get? b = some q := by
                    obtain ⟨o, _, _, e, _⟩ := dn
                    exact ⟨o, e⟩
                  exact d_write I (by rw [he rfl]; exact True.intro) hsb hex dn.okH
                · exact S.set hn1 hg1 ⟨_, upd_same, RD.evo ev S.trk ⟨hs, zs, rfl, r'⟩⟩⟩

theorem l_listAny (O : XOk X G) {a : Expr} {f : EvE} {np pos : Pos} (B : Bn X "list" (.type "list")) (hn : ∀ v p, a ≠ .Starred v p) (ha : SE X G a f) : SL X G (.Call (.Name "list" np) [a] [] pos) (qKeys f) := fun W tk => by
  have hc : CallR X (.type "list") fun vs H Q => ∃ v φ η x xs, vs = [v] ∧ Sim G φ η H ∧ RV G.K φ H x v ∧ keysOf η x = some xs ∧ ∀ l ws, H l = none → RVs G.K φ H xs ws → Q (.ref l) (L2.upd H l (.lst ws)) := by
    intro pins s σ H vs us Q I rs ⟨v, φ, η, x, xs, e, S, rx, hk, q⟩
    subst e
    cases rx with
    | @tup xs a vs hq hl hx =>
      cases hk
      exact call_list_of pins s σ H _ us Q I rs ⟨a, vs, rfl, .inr (by rw [O.K]; exact hq.t), fun l hl' => q l vs hl' ⟨hl, hx⟩⟩
    | @fl xs a vs hq hl hx =>
      cases hk
      exact call_list_of pins s σ H _ us Q I rs ⟨a, vs, rfl, .inl (by rw [O.K]; exact hq.l), fun l hl' => q l vs hl' ⟨hl, hx⟩⟩
    | @loc m a hn =>
      unfold keysOf at hk
      simp only at hk
      cases hg : η.get m with
      | none => simp only [hg] at hk; cases hk
      | some o =>
        simp only [hg] at hk
        cases o with
        | ins _ _ => cases hk
        | lst xs =>
          cases hk
          obtain ⟨vs, hH, R⟩ := locList S hn hg
          exact call_list_of pins s σ H _ us Q I rs ⟨a, vs, rfl, .inl (SqL.of hH), fun l hl' => q l vs hl' R⟩
        | dic lk es =>
          cases hk
          obtain ⟨xs, hs, d, r, _⟩ := dicAt O I S hn hg
          obtain ⟨o, es', ep, h1, h2, h3, h4⟩ := d
          obtain ⟨u, rfl, ru⟩ := vals1 rs
          cases (show u = Value.ref a from ru)
          have hsz : es'.size = xs.length := by rw [← Array.length_toList, h4, List.length_map]
          refine PySem.W.kdl_call (PySem.KdlSrc.rawDict (es := es') (ep := ep) hs) (I.ok.hd O.calm) ⟨o, h1, h2, h3⟩ (by rw [hsz, ← r.1]; exact r.2.1) fun h' tk acc' c' kp hS hi => ?_
          -- the keys' values
          have key : ∀ (i : Nat) (p : Vl × Vl), es[i]? = some p → ∃ (u : Value) (w : V), acc'[i]? = some u ∧ RV G.K φ H p.1 w ∧ RelV w u := fun i p hp => by
            obtain ⟨q, hq, e1, _, ⟨w, k1, k2⟩, _⟩ := r.fw hp
            have hlt : i < acc'.size := by rw [hi.1, hsz]; exact (List.getElem?_eq_some_iff.mp hq).1
            have hu : acc'[i]? = some (acc'[i]) := Array.getElem?_eq_getElem hlt
            obtain ⟨hi2, eu⟩ := hi.2 i _ hu
            have e5 : es'.toList[i]? = some ⟨(nk q.1).hash G.w, q.2.1, q.2.2⟩ := by rw [h4, List.getElem?_map, hq]; rfl
            have e6 : es'[i] = ⟨(nk q.1).hash G.w, q.2.1, q.2.2⟩ := by
              rw [Array.getElem?_toList, Array.getElem?_eq_getElem hi2] at e5
              exact Option.some.inj e5
            refine ⟨_, w, hu, k1, ?_⟩
            rw [eu, e6]
            exact k2
          have hlen : acc'.toList.length = es.length := by rw [Array.length_toList, hi.1, hsz, r.1]
          have all : ∀ (n : Nat) (es1 : List (Vl × Vl)) (us1 : List Value), es1.length = n → us1.length = n → (∀ (i : Nat) (p : Vl × Vl), es1[i]? = some p → ∃ (u : Value) (w : V), us1[i]? = some u ∧ RV G.K φ H p.1 w ∧ RelV w u) →
              ∃ ws : List V, Vals ws us1 ∧ RVs G.K φ H (es1.map fun p => p.1) ws := by
            intro n
            induction n with
            | zero =>
              intro es1 us1 e1 e2 _
              cases es1 with
              | nil => cases us1 with
                | nil => exact ⟨[], .nil, RVs.nil⟩
                | cons _ _ => cases e2
              | cons _ _ => cases e1
            | succ n ih =>
              intro es1 us1 e1 e2 hh
              cases es1 with
              | nil => cases e1
              | cons p es1 => cases us1 with
                | nil => cases e2
                | cons u us1 =>
                  obtain ⟨u', w, f1, f2, f3⟩ := hh 0 p rfl
                  cases f1
                  obtain ⟨ws, g1, g2⟩ := ih es1 us1 (Nat.succ.inj e1) (Nat.succ.inj e2) fun i p hp => hh (i + 1) p hp
                  exact ⟨w :: ws, .cons f3 g1, RVs.cons f2 g2⟩
          obtain ⟨ws, rv, R⟩ := all es.length es acc'.toList rfl hlen fun i p hp => by
            obtain ⟨u, w, f1, f2⟩ := key i p hp
            exact ⟨u, w, by rw [Array.getElem?_toList]; exact f1, f2⟩
          have hlw : ws.length ≤ sizeLine := by rw [← R.1, List.length_map]; exact r.2.1
          refine ⟨.ref s.heap.objs.size, _, I.laid (t' := tk) kp (Nat.le_refl _) (show ObjOk X.prog X.w _ h' _ (.lst ws) from ⟨hlw, acc'.toList, c', rv, ?_⟩), rfl, q _ ws (I.hok.fresh (Nat.le_refl _)) R⟩
          rw [Array.toArray_toList]; exact hS
    | _ => cases hk
  refine ⟨fun pins s σ H Q I ⟨φ, η, r, S, E, p⟩ => (pe_callU B (.inr ⟨_, rfl⟩) hc (pa_cons (ha W tk) pa_nil (starEach_cons hn)) (NoStar.one hn)).run pins s σ H Q I ⟨φ, η, r, S, E, ?_⟩⟩
  have p : Post G (RL G H) (fun c d H' => W c d σ H') φ H ((f r η).bind fun v h => match keysOf h v with | some xs => .ok xs h | none => .bad 246) Q := p
  cases hf : f r η with
  | bad n => rw [hf] at p; exact p
  | ex c v η' => rw [hf] at p; exact p
  | ok x η' =>
    rw [hf] at p
    have p : Post G (RL G H) (fun c d H' => W c d σ H') φ H (match keysOf η' x with | some xs => .ok xs η' | none => .bad 246) Q := p
    intro φ1 H1 v e1 S1 R1
    cases hk : keysOf η' x with
    | none => rw [hk] at p; exact p.elim
    | some xs =>
      rw [hk] at p
      refine ⟨v, φ1, η', x, xs, rfl, S1, R1, hk, fun l ws hl R => ?_⟩
      exact p φ1 _ (.ref l) (e1.trans (Evo.upd hl)) (S1.upd hl) ⟨l, ws, rfl, e1.fresh S1.trk hl, upd_same, S1.notIn hl, R.evo (Evo.upd hl) S1.trk⟩
end
end FP
end
section
namespace FP
open PySem PySem.Spec PyProof.Rows L2 PySem.SeqAt

section
variable {G : Gd}
/-- an entry's parts are values of the layer -/
def Rep (xs : List (Vl × Value × Value)) : Prop := ∀ q, q ∈ xs → (∃ v, RelV v q.2.1) ∧ ∃ v, RelV v q.2.2
theorem RDT.rep {φ : List Addr} {H : Hp} {es : List (Vl × Vl)} {xs : List (Vl × Value × Value)} (r : RDT G φ H es xs) : Rep xs := fun q m => by
  obtain ⟨i, hi⟩ := List.getElem?_of_mem m
  obtain ⟨p, _, _, _, ⟨v, _, h1⟩, w, _, h2⟩ := r.bw hi
  exact ⟨⟨v, h1⟩, w, h2⟩
def ItkN (G : Gd) (d : Addr) (o : Obj) (xs : List (Vl × Value × Value)) : It :=
  ⟨fun i H => H d = some (.frz o (.ext (DN G d xs))) ∧ i < xs.length ∧ Rep xs, fun i H x H' => H' = H ∧ ∃ q, xs[i]? = some q ∧ RelV x q.2.1, fun i H => H d = some (.frz o (.ext (DN G d xs))) ∧ xs.length ≤ i⟩
def ItiN (G : Gd) (d : Addr) (o : Obj) (xs : List (Vl × Value × Value)) : It :=
  ⟨fun i H => H d = some (.frz o (.ext (DN G d xs))) ∧ i < xs.length ∧ Rep xs, fun i H x H' => ∃ T q k v, xs[i]? = some q ∧ RelV k q.2.1 ∧ RelV v q.2.2 ∧ x = .ref T ∧ H T = none ∧ H' = upd H T (.tup [k, v]), fun i H => H d = some (.frz o (.ext (DN G d xs))) ∧ xs.length ≤ i⟩
theorem frzN {X : Cx} {pins : List (Addr × Obj)} {σ : L2.St} {H : Hp} {s : Shared} {d : Addr} {o : Obj} {xs : List (Vl × Value × Value)} (I : Inv X pins σ H s) (h : H d = some (.frz o (.ext (DN G d xs)))) :
    s.heap.get? d = some o ∧ o.ExactDict ∧ ∃ (es : Array DictEntry) (ep : Nat), o.data = .dict es ep ∧ es.toList = xs.map fun x => ⟨(nk x.1).hash G.w, x.2.1, x.2.2⟩ := by
  have x : ObjOk X.prog X.w H s.heap d (.frz o (.ext (DN G d xs))) := I.hok d _ h
  obtain ⟨h1, ⟨o', es, ep, h2, h3, h4, h5⟩, _⟩ := x
  rw [h1] at h2
  cases h2
  exact ⟨h1, h3, es, ep, h4, h5⟩
theorem ent_at {xs : List (Vl × Value × Value)} {es : Array DictEntry} (h : es.toList = xs.map fun x => (⟨(nk x.1).hash G.w, x.2.1, x.2.2⟩ : DictEntry)) (i : Nat) {q : Vl × Value × Value} (e : xs[i]? = some q) : es[i]? = some ⟨(nk q.1).hash G.w, q.2.1, q.2.2⟩ := by
  rw [← Array.getElem?_toList, h, List.getElem?_map, e]; rfl
theorem ent_size {xs : List (Vl × Value × Value)} {es : Array DictEntry} (h : es.toList = xs.map fun x => (⟨(nk x.1).hash G.w, x.2.1, x.2.2⟩ : DictEntry)) : es.size = xs.length := by
  rw [← Array.length_toList, h, List.length_map]
theorem turn_keysN {P : Program} {w : World} {K : PySem.W.Frag} {tg : Expr} {d : Addr} {o : Obj} {xs : List (Vl × Value × Value)} {es : Array DictEntry} {ep : Nat} (it : Addr) (hod : o.data = .dict es ep) : Turn P w K tg (ItkN G d o xs) [it] it (fun i h => h.IsKeyIter it d i xs.length ep) where
  mem := by simp
  obj := fun i h st b hb => by
    have e : b = it := by simpa using hb
    subst e
    obtain ⟨oi, e, c, dd⟩ := st
    exact ⟨oi, e, fun v z => by rw [dd] at z; cases z⟩
  keep := fun i h h' st k => st.at fun oi e => k it (by simp) oi e
  item := by
    intro X hP hw hK hc i pins s σ H E I hf st hg
    subst hP hw hK
    obtain ⟨hd, hi, rep⟩ := hg
    obtain ⟨f0, f1, f2, f3, f4, f5⟩ := hf it (by simp)
    obtain ⟨hgd, hx, es', ep', hdt, ent⟩ := frzN I hd
    obtain ⟨rfl, rfl⟩ := dict_ep hod hdt
    have hq : xs[i]? = some xs[i] := List.getElem?_eq_getElem hi
    obtain ⟨⟨v, rv⟩, _⟩ := rep _ (List.mem_of_getElem? hq)
    refine next_key_item st hgd hdt (ent_size ent) (ent_at ent i hq) fun h' st' sb => ?_
    have I1 : Inv X pins σ H { s with heap := h' } := I.turned (t' := s.toks) (fun b ob hb e => (sb.2 b hb).trans e) f0 f1 f3 f4 f5
    obtain ⟨oi, e, c, dd⟩ := id st'
    exact ⟨_, rfl, go_of (s := { s with heap := h' }) e c dd (by decide) ⟨v, H, I1, rv, ⟨rfl, _, hq, rv⟩, st', fun b hb => (hf b hb).1⟩⟩
  done := by
    intro X hP hw hK hc i pins s σ H E I hf st hg
    subst hP hw hK
    obtain ⟨hd, hi⟩ := hg
    obtain ⟨f0, f1, f2, f3, f4, f5⟩ := hf it (by simp)
    obtain ⟨hgd, hx, es', ep', hdt, ent⟩ := frzN I hd
    obtain ⟨rfl, rfl⟩ := dict_ep hod hdt
    exact next_key_end (I.ok.hd hc) st hgd hdt (ent_size ent) hi fun h' eb => ⟨rfl, I.turned (t' := s.toks) (fun b ob hb e => eb b ob hb e) f0 f1 f3 f4 f5⟩
  self := fun A i s Q E st h => by
    refine wpAny_pyIter_slot st.typeIs F.slot_dict_keyiterator_iter (wpAny_call_entry F.slot_dict_keyiterator_iter st.typeIs F.entry_dict_keyiterator_iter ?_ (F.args_dict_keyiterator_iter_1 _))
    show wpAny _ _ (ret (.ref it)) _ _ s
    exact wpAny_pure ⟨_, rfl, "dict_keyiterator", _, st.typeIs, F.slot_dict_keyiterator_next.lookup, h⟩
theorem turn_itemsN {P : Program} {w : World} {K : PySem.W.Frag} {d : Addr} {o : Obj} {xs : List (Vl × Value × Value)} {es : Array DictEntry} {ep : Nat} {elts : List Expr} {kk : Nat} {tpos : Pos} (it : Addr) (hod : o.data = .dict es ep) :
    Turn P w K (.Tuple elts kk tpos) (ItiN G d o xs) [it] it (fun i h => ∃ ok ov, IsItemIter h it d i xs.length ep ok ov) where
  mem := by simp
  obj := fun i h st b hb => by
    have e : b = it := by simpa using hb
    subst e
    obtain ⟨ok, ov, e⟩ := st
    exact ⟨_, e, fun v z => nomatch z⟩
  keep := fun i h h' st k => let ⟨ok, ov, e⟩ := st; ⟨ok, ov, k it (by simp) _ e⟩
  item := by
    intro X hP hw hK hc i pins s σ H E I hf st hg
    subst hP hw hK
    obtain ⟨hd, hi, rep⟩ := hg
    obtain ⟨hgd, hx, es', ep', hdt, ent⟩ := frzN I hd
    obtain ⟨rfl, rfl⟩ := dict_ep hod hdt
    have hq : xs[i]? = some xs[i] := List.getElem?_eq_getElem hi
    obtain ⟨⟨k, rk⟩, v, rv⟩ := rep _ (List.mem_of_getElem? hq)
    have hz := ent_size ent
    have hi' : i < es'.size := by rw [hz]; exact hi
    have en : es'[i] = ⟨(nk xs[i].1).hash G.w, xs[i].2.1, xs[i].2.2⟩ := by
      have := ent_at ent i hq
      rw [Array.getElem?_eq_getElem hi'] at this
      exact Option.some.inj this
    obtain ⟨ok, ov, he⟩ := st
    rw [← hz] at he
    have hlt : it < s.heap.objs.size := Heap.lt_size he
    refine wpAny_pyNext_items_item_raw he ⟨o, hgd, hx, hdt⟩ hi' fun h' ho hT hzz hk => ?_
    refine ⟨_, rfl, wpAny_letOwnedTupleGo_items (s := { s with heap := h' }) ho fun h'' he' sb => ?_⟩
    rw [en] at hT
    have hT2 : h''.get? s.heap.objs.size = some { cls := .type "tuple", data := .seq #[xs[i].2.1, xs[i].2.2] } := (sb.2 _ (Nat.ne_of_gt hlt)).trans hT
    have new : ObjOk X.prog X.w (upd H s.heap.objs.size (.tup [k, v])) h'' s.heap.objs.size (.tup [k, v]) :=
      ⟨by show 2 ≤ sizeLine; decide, [_, _], .cons rk (.cons rv .nil), ⟨_, hT2, rfl, _, rfl⟩⟩
    have I1 : Inv X pins σ (upd H s.heap.objs.size (.tup [k, v])) { s with heap := h'' } :=
      I.turnedNew (t' := s.toks) (ch := [it]) (fun b ob hb e => (sb.2 b (by simpa using hb)).trans (hk b ob (by simpa using hb) e)) hf (Nat.le_refl _) new
    refine ⟨.ref s.heap.objs.size, _, I1, rfl, ⟨_, _, k, v, hq, rk, rv, rfl, I.hok.fresh (Nat.le_refl _), rfl⟩, ⟨es'[i].key, es'[i].val, ?_⟩, fun b hb => ?_⟩
    · rw [← hz]; exact he'
    · have e : b = it := by simpa using hb
      rw [e, upd_ne (Nat.ne_of_lt hlt)]
      exact (hf it (by simp)).1
  done := by
    intro X hP hw hK hc i pins s σ H E I hf st hg
    subst hP hw hK
    obtain ⟨hd, hi⟩ := hg
    obtain ⟨f0, f1, f2, f3, f4, f5⟩ := hf it (by simp)
    obtain ⟨hgd, hx, es', ep', hdt, ent⟩ := frzN I hd
    obtain ⟨rfl, rfl⟩ := dict_ep hod hdt
    have hz := ent_size ent
    obtain ⟨ok, ov, he⟩ := st
    rw [← hz] at he
    exact wpAny_pyNext_items_end_raw (I.ok.hd hc) he ⟨o, hgd, hx, hdt⟩ (by rw [hz]; exact hi) fun h' eb => ⟨rfl, I.turned (t' := s.toks) (fun b ob hb e => eb b ob hb e) f0 f1 f3 f4 f5⟩
  self := fun A i s Q E st h => let ⟨_, _, e⟩ := st; PySem.W.kcp_self e h
end

section
variable {X : Cx} {G : Gd}
/-- the locked dict's entries as the evaluator has them -/
theorem lockAt {φ : List Addr} {η : He} {H : Hp} {q : Nat} {d : Addr} {o : Obj} {xs : List (Vl × Value × Value)} {es : List (Vl × Vl)} {h0 : Heap} (hd : DN G d xs h0) (S : Sim G φ η H) (hn : φ[q]? = some d) (hH : H d = some (.frz o (.ext (DN G d xs)))) (hg : η.get q = some (.dic true es)) :
    xs.length = es.length ∧ Rep xs ∧ ∀ (i : Nat) (p : Vl × Vl), es[i]? = some p → ∃ e : Vl × Value × Value, xs[i]? = some e ∧ kdk p.1 = true ∧ (∃ v, RV G.K φ H p.1 v ∧ RelV v e.2.1) ∧ ∃ v, RV G.K φ H p.2 v ∧ RelV v e.2.2 := by
  obtain ⟨ob, ho, ro⟩ := S.ob q d hn
  rw [hg] at ho
  cases ho
  obtain ⟨u, ⟨od, hu⟩, hs, ys, eu, r⟩ := ro
  rw [hH] at hu
  cases hu
  have eD : DN G d xs = DN G d ys := by injection eu
  have hd2 : DN G d ys h0 := by rw [← eD]; exact hd
  obtain ⟨o1, e1, p1, h1, h2, h3, h4⟩ := hd
  obtain ⟨o2, e2, p2, k1, k2, k3, k4⟩ := hd2
  rw [h1] at k1
  cases k1
  obtain ⟨rfl, rfl⟩ := dict_ep h3 k3
  rw [h4] at k4
  have hl : xs.length = ys.length := by have := congrArg List.length k4; simpa using this
  have same : ∀ (i : Nat) (e f : Vl × Value × Value), xs[i]? = some e → ys[i]? = some f → e.2.1 = f.2.1 ∧ e.2.2 = f.2.2 := fun i e f x1 x2 => by
    have := congrArg (fun l => l[i]?) k4
    simp only [List.getElem?_map, x1, x2, Option.map_some, Option.some.injEq, DictEntry.mk.injEq] at this
    exact ⟨this.2.1, this.2.2⟩
  have getx : ∀ (i : Nat) (f : Vl × Value × Value), ys[i]? = some f → ∃ e, xs[i]? = some e := fun i f hf => by
    have : i < ys.length := (List.getElem?_eq_some_iff.mp hf).1
    exact ⟨_, List.getElem?_eq_getElem (by omega)⟩
  refine ⟨by rw [hl, r.1], fun e m => ?_, fun i p hp => ?_⟩
  · obtain ⟨i, hi⟩ := List.getElem?_of_mem m
    have : i < xs.length := (List.getElem?_eq_some_iff.mp hi).1
    have hy : ys[i]? = some (ys[i]'(by omega)) := List.getElem?_eq_getElem _
    obtain ⟨s1, s2⟩ := same i _ _ hi hy
    obtain ⟨⟨v, rv⟩, w, rw'⟩ := r.rep _ (List.mem_of_getElem? hy)
    exact ⟨⟨v, by rw [s1]; exact rv⟩, w, by rw [s2]; exact rw'⟩
  · obtain ⟨f, hf, e1, hk, ⟨v, a1, a2⟩, w, a3, a4⟩ := r.fw hp
    obtain ⟨e, he⟩ := getx i f hf
    obtain ⟨s1, s2⟩ := same i e f he hf
    exact ⟨e, he, hk, ⟨v, a1, by rw [s1]; exact a2⟩, w, a3, by rw [s2]; exact a4⟩
def CkN (G : Gd) (q : Nat) (d : Addr) (o : Obj) (xs : List (Vl × Value × Value)) (k : Nat → Cu) (i : Nat) (φ : List Addr) (H : Hp) (c : Cu) : Prop := c = k i ∧ φ[q]? = some d ∧ H d = some (.frz o (.ext (DN G d xs)))
theorem CkN.evo {q : Nat} {d : Addr} {o : Obj} {xs : List (Vl × Value × Value)} {k : Nat → Cu} {i : Nat} {φ φ' : List Addr} {H H' : Hp} {c : Cu} (h : CkN G q d o xs k i φ H c) (e : Evo φ H φ' H') : CkN G q d o xs k i φ' H' c := ⟨h.1, e.at h.2.1, e.frz _ _ _ h.2.2⟩
theorem CkN.away {q : Nat} {d D : Addr} {o : Obj} {xs : List (Vl × Value × Value)} {k : Nat → Cu} {i : Nat} {φ : List Addr} {H : Hp} {c : Cu} {u : HO} (h : CkN G q d o xs k i φ H c) (n : D ∉ φ) : CkN G q d o xs k i φ (L2.upd H D u) c :=
  ⟨h.1, h.2.1, by rw [upd_ne (by rintro rfl; exact n (mem_at h.2.1))]; exact h.2.2⟩
theorem next_keys {η : He} {q i : Nat} {es : List (Vl × Vl)} (hg : η.get q = some (.dic true es)) : FP.next η (.keys q i) = match es[i]? with | some p => .item p.1 (.keys q (i + 1)) | none => .stop := by
  unfold FP.next
  simp only [hg, nth_eq]
  all_goals (cases es[i]? <;> rfl)
theorem next_itms {η : He} {q i : Nat} {es : List (Vl × Vl)} (hg : η.get q = some (.dic true es)) : FP.next η (.itms q i) = match es[i]? with | some p => .item (pairV p) (.itms q (i + 1)) | none => .stop := by
  unfold FP.next
  simp only [hg, nth_eq]
  all_goals (cases es[i]? <;> rfl)
theorem lockedAt {φ : List Addr} {η : He} {H : Hp} {q : Nat} {d : Addr} {o : Obj} {xs : List (Vl × Value × Value)} (S : Sim G φ η H) (hn : φ[q]? = some d) (hH : H d = some (.frz o (.ext (DN G d xs)))) : ∃ es, η.get q = some (.dic true es) := by
  obtain ⟨ob, ho, ro⟩ := S.ob q d hn
  cases ob with
  | lst ys => obtain ⟨vs, h, _⟩ := ro; rw [hH] at h; cases h
  | ins c fs => obtain ⟨_, _, _, _, h, _⟩ := ro; rw [hH] at h; cases h
  | dic lk es =>
    cases lk with
    | true => exact ⟨es, ho⟩
    | false =>
      obtain ⟨u, h, _, _, eu, _⟩ := ro
      rw [hH] at h
      cases h
      cases eu
theorem walk_keysN {q : Nat} {d : Addr} {o : Obj} {xs : List (Vl × Value × Value)} {h0 : Heap} (hd : DN G d xs h0) : Walk G (RVl G) (ItkN G d o xs) (CkN G q d o xs (.keys q)) :=
  have W0 : Walk0 G (RVl G) (ItkN G d o xs) (CkN G q d o xs (.keys q)) := {
    evo := fun i φ H φ' H' c h t e => h.evo e
    stop := fun i φ η H c h S e => by
      obtain ⟨rfl, hn, hH⟩ := h
      obtain ⟨es, hg⟩ := lockedAt S hn hH
      obtain ⟨hl, _, _⟩ := lockAt hd S hn hH hg
      rw [next_keys hg] at e
      cases hi : es[i]? with
      | some p => rw [hi] at e; cases e
      | none => exact ⟨hH, by rw [hl]; exact List.getElem?_eq_none_iff.mp hi⟩
    item := fun i φ η H c v c' h S e => by
      obtain ⟨rfl, hn, hH⟩ := h
      obtain ⟨es, hg⟩ := lockedAt S hn hH
      obtain ⟨hl, rep, ent⟩ := lockAt hd S hn hH hg
      rw [next_keys hg] at e
      cases hi : es[i]? with
      | none => rw [hi] at e; cases e
      | some p =>
        rw [hi] at e
        cases e
        have hlt : i < es.length := (List.getElem?_eq_some_iff.mp hi).1
        refine ⟨⟨hH, by omega, rep⟩, fun x H' ⟨e1, y, e2, e3⟩ => ?_⟩
        subst e1
        obtain ⟨e', he, _, ⟨w, r1, r2⟩, _⟩ := ent i p hi
        rw [e2] at he
        cases he
        cases e3.inj r2
        exact ⟨Evo.refl, S, r1, rfl, hn, hH⟩ }
  { W0 with away := fun D => ⟨_, W0, ⟨fun i φ H c o u h n _ _ => h.away n⟩, fun φ H c h _ => h⟩ }
theorem walk_itemsN {q : Nat} {d : Addr} {o : Obj} {xs : List (Vl × Value × Value)} {h0 : Heap} (hd : DN G d xs h0) : Walk G (RP G) (ItiN G d o xs) (CkN G q d o xs (.itms q)) :=
  have W0 : Walk0 G (RP G) (ItiN G d o xs) (CkN G q d o xs (.itms q)) := {
    evo := fun i φ H φ' H' c h t e => h.evo e
    stop := fun i φ η H c h S e => by
      obtain ⟨rfl, hn, hH⟩ := h
      obtain ⟨es, hg⟩ := lockedAt S hn hH
      obtain ⟨hl, _, _⟩ := lockAt hd S hn hH hg
      rw [next_itms hg] at e
      cases hi : es[i]? with
      | some p => rw [hi] at e; cases e
      | none => exact ⟨hH, by rw [hl]; exact List.getElem?_eq_none_iff.mp hi⟩
    item := fun i φ η H c v c' h S e => by
      obtain ⟨rfl, hn, hH⟩ := h
      obtain ⟨es, hg⟩ := lockedAt S hn hH
      obtain ⟨hl, rep, ent⟩ := lockAt hd S hn hH hg
      rw [next_itms hg] at e
      cases hi : es[i]? with
      | none => rw [hi] at e; cases e
      | some p =>
        rw [hi] at e
        cases e
        have hlt : i < es.length := (List.getElem?_eq_some_iff.mp hi).1
        refine ⟨⟨hH, by omega, rep⟩, fun x H' ⟨T, y, k, v, e1, e2, e3, e4, hT, eH⟩ => ?_⟩
        subst e4; subst eH
        obtain ⟨e', he, _, ⟨w, r1, r2⟩, w', r3, r4⟩ := ent i p hi
        rw [e1] at he
        cases he
        cases e2.inj r2
        cases e3.inj r4
        have ev : Evo φ H φ (L2.upd H T (.tup [k, v])) := Evo.upd hT
        exact ⟨ev, S.upd hT, ⟨p.1, p.2, T, k, v, rfl, rfl, SqT.of upd_same, r1.evo ev S.trk, r3.evo ev S.trk⟩, rfl, hn, ev.frz _ _ _ hH⟩ }
  { W0 with away := fun D => ⟨_, W0, ⟨fun i φ H c o u h n _ _ => h.away n⟩, fun φ H c h _ => h⟩ }
/-- a dict is walked: it is locked first -/
theorem iterV_dict {tg : Expr} : IterV X tg fun x H R => ∃ a xs, x = .ref a ∧ (a == sysModules) = false ∧ H a = some (.ext (DN G a xs)) ∧ ∀ od h0, NF X a → DN G a xs h0 → R (ItkN G a od xs) (L2.upd H a (.frz od (.ext (DN G a xs)))) := by
  intro pins s σ H x v R I r ⟨a, xs, ex, hs, hH, q⟩
  subst ex
  cases (show v = Value.ref a from r)
  obtain ⟨od, I2⟩ := I.lock hH True.intro
  have nf : NF X a := I.nofrz hH True.intro
  have dn : DN G a xs s.heap := (show ObjOk X.prog X.w H s.heap a (.ext (DN G a xs)) from I.hok a _ hH).1
  obtain ⟨h1, h2, es, ep, h3, h4⟩ := frzN I2 upd_same
  refine iter_keys hs h1 h2 h3 (pi_one (tk := s.toks) I2 _ (turn_keysN _ h3) ⟨_, Heap.get?_push_size _ rfl, rfl, ?_⟩ (q od s.heap nf dn))
  rw [ent_size h4] <;> rfl
theorem lockO {η : He} {q : Nat} {lk : Bool} {es : List (Vl × Vl)} {h : He} (hg : η.get q = some (.dic lk es)) (hl : lock true q η = some h) : lk = false ∧ h = η.set q (.dic true es) := by
  unfold lock at hl
  simp only [hg] at hl
  cases lk with
  | true => cases hl
  | false => cases hl; exact ⟨rfl, rfl⟩
/-- .items(), walked -/
def tItN (G : Gd) (X : Cx) (te : TE) : TI := fun σ H R => te σ H fun x H1 => ∃ a xs, x = .ref a ∧ (a == sysModules) = false ∧ H1 a = some (.ext (DN G a xs)) ∧ ∀ od h0, NF X a → DN G a xs h0 → R (ItiN G a od xs) (L2.upd H1 a (.frz od (.ext (DN G a xs))))
theorem pi_itemsN {elts : List Expr} {kk : Nat} {tpos : Pos} {e : Expr} {te : TE} {apos cpos : Pos} (he : PE X e te) (hb : plainBase e = true) (hline : (apos.endLine == cpos.line) = true) :
    PI X (.Tuple elts kk tpos) (.Call (.Attribute e "items" apos) [] [] cpos) (tItN G X te) := by
  refine ⟨fun pins s σ H R I h => ?_⟩
  refine wpAny_Call_method (T := "dict") (id := "dict.items") (base_of hb) rfl hline F.plainAttrs_dict F.slot_dict_items F.type_dict_items (thn (he.run pins s σ H _ I h) fun u s1 ⟨x, H1, I1, rx, a, xs, ex, hs, hH, q⟩ => ?_)
  subst ex
  obtain rfl : u = Value.ref a := rx
  obtain ⟨od, I2⟩ := I1.lock hH True.intro
  have nf : NF X a := I1.nofrz hH True.intro
  have dn : DN G a xs s1.heap := (show ObjOk X.prog X.w H1 s1.heap a (.ext (DN G a xs)) from I1.hok a _ hH).1
  obtain ⟨h1, h2, es, ep, h3, h4⟩ := frzN I2 upd_same
  have raw : s1.heap.DictRaw a es ep := ⟨od, h1, h2, h3⟩
  refine ⟨raw.typeIs, fun b e => by cases e; exact ⟨od, h1, h2.2.1⟩, ?_⟩
  have I3 : Inv X pins σ (L2.upd H1 a (.frz od (.ext (DN G a xs)))) { s1 with heap := s1.heap.push { cls := .type "dict_items", data := .fields #[.ref a] } } := I2.kept (t' := s1.toks) fun b ob q => Heap.get?_push_of_some _ q
  have fin : wpAny (model X.prog X.w) X.A (pyIter (.ref s1.heap.objs.size)) (PIE X pins σ (.Tuple elts kk tpos) R) X.xe { s1 with heap := s1.heap.push { cls := .type "dict_items", data := .fields #[.ref a] } } := by
    refine wpAny_pyIter_items_raw (d := a) ⟨_, Heap.get?_push_size _ rfl, rfl, rfl⟩ (raw.at fun o e => Heap.get?_push_of_some _ e) (pi_one (tk := s1.toks) I3 _ (turn_itemsN _ h3) ⟨.none, .none, ?_⟩ (q od s1.heap nf dn))
    rw [← ent_size h4]
    exact Heap.get?_push_size _ rfl
  show wpAny _ _ (callWith cpos (.builtin "dict.items") [.ref a] [] []) _ X.xe s1
  exact method_meetsIn F.slot_dict_items F.entry_dict_items rfl (PySem.evalArgs_none ⟨rfl, raw.typeIs, F.args_dict_items_1 _, _, meets_dict_items_raw a hs, ⟨es, ep, raw⟩, fin⟩)
theorem si_items (O : XOk X G) {elts : List Expr} {kk : Nat} {tpos : Pos} {e : Expr} {f : EvE} {apos cpos : Pos} (he : SE X G e f) (hb : plainBase e = true) (hline : (apos.endLine == cpos.line) = true) :
    SI X G (RP G) (.Tuple elts kk tpos) (.Call (.Attribute e "items" apos) [] [] cpos) (FP.iItems f) := fun W tk => by
  refine piWeak (pi_itemsN (G := G) (he W tk) hb hline) fun σ H R q => ?_
  refine (ri_bind (R := RVl G) (k := fun v _ h => match v with | .loc q => (match lock true q h with | some h => .ok (.itms q 0, some q) h | none => .bad 209) | _ => .bad 210) q).imp ?_
  rintro v H1 ⟨φ1, η1, r1, x, S1, E1, R1, p1⟩
  cases R1 with
  | @loc m a hn =>
    simp only at p1
    cases hl : lock true m η1 with
    | none => simp only [hl] at p1; exact p1.elim
    | some h =>
      simp only [hl] at p1
      obtain ⟨ob, ho, ro⟩ := S1.ob m a hn
      cases ob with
      | lst _ => unfold lock at hl; simp only [ho] at hl; cases hl
      | ins _ _ => unfold lock at hl; simp only [ho] at hl; cases hl
      | dic lk es =>
        obtain ⟨rfl, rfl⟩ := lockO ho hl
        obtain ⟨u, hH, hs, xs, rfl, r⟩ := ro
        refine ⟨a, xs, rfl, hs, hH, fun od h0 nf dn => ?_⟩
        exact p1 φ1 _ (ItiN G a od xs) _ (Evo.set (mem_at hn) hH trivial) (S1.set hn ho ⟨_, ⟨od, upd_same⟩, hs, xs, rfl, r.kept (Kept.set S1 (mem_at hn))⟩) (walk_itemsN (q := m) dn) ⟨rfl, hn, upd_same⟩ ⟨a, hn, nf, fun b u z => by rw [hH] at z; cases z⟩
  | _ => exact p1.elim
/-- over a value -/
theorem si_of (O : XOk X G) {tg e : Expr} {f : EvE} (he : SE X G e f) : SI X G (RVl G) tg e (iOf f) := fun W tk => by
  have both : IterV X tg fun x H R => ((∃ b a vs, x = .ref a ∧ SqB X.K H b a vs ∧ R (ItB X.K b a) H) ∨ ∃ z, x = .str z ∧ R (Its z) H) ∨ ∃ a xs, x = .ref a ∧ (a == sysModules) = false ∧ H a = some (.ext (DN G a xs)) ∧ ∀ od h0, NF X a → DN G a xs h0 → R (ItkN G a od xs) (L2.upd H a (.frz od (.ext (DN G a xs)))) := fun pins s σ H x v R I r q => by
    rcases q with (q | q) | q
    · exact iterV_seq pins s σ H x v R I r q
    · exact iterV_str pins s σ H x v R I r q
    · exact iterV_dict pins s σ H x v R I r q
  refine piWeak (pi_of both (he W tk)) fun σ H R q => ?_
  refine (ri_bind (R := RVl G) (k := fun v _ h => curOf h v) q).imp ?_
  rintro v H1 ⟨φ1, η1, r1, x, S1, E1, R1, p1⟩
  cases R1 with
  | @tup xs a vs hq hl hx =>
    refine .inl (.inl ⟨true, a, vs, rfl, by rw [O.K]; exact hq.t, ?_⟩)
    exact p1 φ1 H1 (ItB X.K true a) (fun i φ H c => Src0 G φ H true a i c) Evo.refl S1 (by rw [O.K]; exact walk_seq) (Src.tup hq ⟨hl, hx⟩ (i := 0)) trivial
  | @fl xs a vs hq hl hx =>
    refine .inl (.inl ⟨false, a, vs, rfl, by rw [O.K]; exact hq.l, ?_⟩)
    exact p1 φ1 H1 (ItB X.K false a) (fun i φ H c => Src0 G φ H false a i c) Evo.refl S1 (by rw [O.K]; exact walk_seq) (Src.fl hq ⟨hl, hx⟩ (i := 0)) trivial
  | str z => exact .inl (.inr ⟨strOf z, rfl, p1 φ1 H1 (Its (strOf z)) _ Evo.refl S1 walk_str rfl trivial⟩)
  | @loc m a hn =>
    have p1 : PostI X G (RVl G) (fun c d H' => W c d σ H') φ1 H1 (match η1.get m with | some (.lst _) => .ok (.lst m 0, none) η1 | some (.dic _ _) => (match lock true m η1 with | some h => .ok (.keys m 0, some m) h | none => .bad 203) | _ => .bad 203) R := p1
    cases hg : η1.get m with
    | none => simp only [hg] at p1; exact p1.elim
    | some o =>
      cases o with
      | ins _ _ => simp only [hg] at p1; exact p1.elim
      | dic lk es =>
        simp only [hg] at p1
        cases hl : lock true m η1 with
        | none => simp only [hl] at p1; exact p1.elim
        | some h =>
          simp only [hl] at p1
          obtain ⟨rfl, rfl⟩ := lockO hg hl
          obtain ⟨ob, ho, ro⟩ := S1.ob m a hn
          rw [hg] at ho
          cases ho
          obtain ⟨u, hH, hs, xs, rfl, r⟩ := ro
          refine .inr ⟨a, xs, rfl, hs, hH, fun od h0 nf dn => ?_⟩
          exact p1 φ1 _ (ItkN G a od xs) _ (Evo.set (mem_at hn) hH trivial) (S1.set hn hg ⟨_, ⟨od, upd_same⟩, hs, xs, rfl, r.kept (Kept.set S1 (mem_at hn))⟩) (walk_keysN (q := m) dn) ⟨rfl, hn, upd_same⟩ ⟨a, hn, nf, fun b u z => by rw [hH] at z; cases z⟩
      | lst xs =>
        simp only [hg] at p1
        obtain ⟨vs, hH, _⟩ := locList S1 hn hg
        exact .inl (.inl ⟨false, a, vs, rfl, SqL.of hH, p1 φ1 H1 (ItB X.K false a) (fun i φ H c => Src0 G φ H false a i c) Evo.refl S1 (by rw [O.K]; exact walk_seq) (Src.loc hn) trivial⟩)
  | _ => exact p1.elim
end
end FP
end
section
namespace FP
open PySem PySem.Spec PyProof.Rows L2 PySem.SeqAt

/-- what a store into the new dict asks: of the dict's place, the key, the value -/
abbrev Sto := Addr → V → V → Hp → (Hp → Prop) → Prop
/-- a comprehension that makes a dict: o0 is the empty one -/
def tDG (o0 : Addr → HO) (St : Sto) (wi : TI) (g : TG) (tt : TT) (tk tv : TE) (vs : List Nat) : TE := fun σ H Q => wi σ H fun J H1 => ∀ D, H1 D = none → (D == sysModules) = false → ∃ W : Nat → Nat → Hp → Prop, (∃ m, W 0 m (L2.upd H1 D (o0 D))) ∧ ∀ i m H, W i m H →
  (J.stop i H ∧ Q (.ref D) H) ∨ (J.go i H ∧ ∃ Nx : Hp → Prop, (∀ H', Nx H' → ∃ m', m' < m ∧ W (i + 1) m' H') ∧ ∀ x H', J.yld i H x H' → g x (wipe σ vs) H' fun σ2 H2 => wipe σ2 vs = wipe σ vs ∧ tt σ2 H2 fun b H3 =>
    if b = true then tk σ2 H3 fun y H4 => tv σ2 H4 fun z H5 => St D y z H5 Nx else Nx H3)
section
variable {X : Cx}
def StoOk (X : Cx) (St : Sto) : Prop := ∀ (s0 : Shared) (H0 : Hp) (scope : Scope) (env : PySem.Env) (fp : List Addr) (pins : List (Addr × Obj)) (s : Shared) (σ : L2.St) (H : Hp) (D : Addr) (y z : V) (u r : Value) (Nx : Hp → Prop) (E : Value → Shared → Prop) (Q : Unit → Shared → Prop), Inv (X.blk s0 H0 scope env fp) pins σ H s → RelV y u → RelV z r →
  St D y z H Nx → (∀ s' H', Inv (X.blk s0 H0 scope env fp) pins σ H' s' → Nx H' → Q () s') → wpAny (model X.prog X.w) X.A (dictSet D u r) Q E s
theorem dg_core {o0 : Addr → HO} {St : Sto} (h0 : ∀ (H : Hp) (h : Heap), sysModules < h.objs.size → ObjOk X.prog X.w H (h.push { cls := .type "dict", data := .dict #[] }) h.objs.size (o0 h.objs.size)) (hSt : StoOk X St)
    {pins : List (Addr × Obj)} {s : Shared} {σ : L2.St} {H : Hp} {Q : VK} {kx vx tg iter : Expr} {ifs : List Expr} {scope : Scope} {own : List (Str × Nat)} {pos pos' : Pos} {wi : TI} {g : TG} {tt : TT} {tk tv : TE} {use : Option (Value → Sem Unit)} {Qf : Value → Shared → Prop}
    (hc : X.calm = true) (hN : X.N.Nodup) (I : Inv X pins σ H s) (hi : PI X tg iter wi) (ok : BlkOk X.N X.env.scope scope own)
    (hg : ∀ (s : Shared) (H : Hp) (C : Addr) (cl : List (Str × Addr)) (fp : List Addr), PG (X.blk s H scope (compEnvC scope cl C X.env) fp) tg g) (ht : ∀ (s : Shared) (H : Hp) (C : Addr) (cl : List (Str × Addr)) (fp : List Addr), PTs (X.blk s H scope (compEnvC scope cl C X.env) fp) ifs tt)
    (hk : ∀ (s : Shared) (H : Hp) (C : Addr) (cl : List (Str × Addr)) (fp : List Addr), PE (X.blk s H scope (compEnvC scope cl C X.env) fp) kx tk)
    (he : ∀ (s : Shared) (H : Hp) (C : Addr) (cl : List (Str × Addr)) (fp : List Addr), PE (X.blk s H scope (compEnvC scope cl C X.env) fp) vx tv) (hs : ∀ x, foldedSetIterable iter X.env x = pure x)
    (h : tDG o0 St wi g tt tk tv (own.map (·.2)) σ H Q)
    (hRR : ∀ D C s' m H', Inv X pins σ H' s' → Q (.ref D) H' → s'.heap.Ns C m → FpOk X pins H' C → compPost (model X.prog X.w) X.A X.xe use Qf (.ref D) C (.ok .next) s') :
    wpAny (model X.prog X.w) X.A (comprehension (.DictComp kx vx [⟨tg, iter, ifs, 0⟩] scope pos) scope X.env pos' newDict false (eval iter X.env) use) Qf X.xe s := by
  have hfree : ∀ y ∈ scope.names, y.2 = .free → ∃ c, X.env.cells.lookup y.1 = some c := fun y hy e => by
    rcases ok.free y hy e with k | k
    · exact I.ok.has _ (.inl k)
    · exact I.ok.has _ (.inr k)
  refine wpAny_comprehension_free (use := use) rfl hs (closure_ok hfree) ok.kind (fun y hy e => by rw [ok.uniq y hy, e])
    (thn (hi.run pins s σ H _ I h) fun xv s1 hx => thn hx fun itv s2 h2 => ?_)
  obtain ⟨it, fp, tn, J, H2, e, I2, T, st2, f2, q⟩ := h2
  subst e
  refine wpAny_newObj_type (newEnv_comp ?_)
  have big := I2.big
  have hDs : (s2.heap.objs.size == sysModules) = false := beq_eq_false_iff_ne.mpr (Ne.symm (Nat.ne_of_lt big))
  generalize hD : s2.heap.objs.size = D at hDs
  have hDn : H2 D = none := I2.hok.fresh (Nat.le_of_eq hD)
  obtain ⟨W, ⟨m0, w0⟩, turn⟩ := q D hDn hDs
  generalize hs3 : ({ s2 with heap := s2.heap.push { cls := .type "dict", data := .dict #[] } } : Shared) = s3
  have I3 : Inv X pins σ (L2.upd H2 D (o0 D)) s3 := by
    rw [← hs3]
    refine I2.laid (t' := s2.toks) (fun b o e => Heap.get?_push_of_some _ e) (Nat.le_of_eq hD) ?_
    rw [← hD]
    exact h0 _ s2.heap big
  have h3 : s3.heap = s2.heap.push { cls := .type "dict", data := .dict #[] } := by rw [← hs3]
  have sz : ∀ b ∈ fp, b < s2.heap.objs.size := fun b hb => by
    obtain ⟨o, e, _⟩ := T.obj _ _ st2 b hb
    exact Heap.lt_size e
  have f3 : ∀ b ∈ fp, FpOk X pins (L2.upd H2 D (o0 D)) b ∧ b < s3.heap.objs.size := fun b hb => by
    have hlt := sz b hb
    refine ⟨⟨?_, (f2 b hb).2⟩, by rw [h3, Heap.size_push]; exact Nat.lt_succ_of_lt hlt⟩
    rw [upd_ne (by rw [← hD]; exact Nat.ne_of_lt hlt)]
    exact (f2 b hb).1
  have st3 : tn 0 s3.heap := T.keep _ _ _ st2 fun b _ o e => by rw [h3]; exact Heap.get?_push_of_some _ e
  have I4 := block_start I3 ok hN f3
  have pg := hg s3 (L2.upd H2 D (o0 D)) s3.heap.objs.size (cellsFrom (s3.heap.objs.size + 1) scope.names (cloFrom X.env.cells scope.names [])) fp
  have pt := ht s3 (L2.upd H2 D (o0 D)) s3.heap.objs.size (cellsFrom (s3.heap.objs.size + 1) scope.names (cloFrom X.env.cells scope.names [])) fp
  have pk := hk s3 (L2.upd H2 D (o0 D)) s3.heap.objs.size (cellsFrom (s3.heap.objs.size + 1) scope.names (cloFrom X.env.cells scope.names [])) fp
  have pe := he s3 (L2.upd H2 D (o0 D)) s3.heap.objs.size (cellsFrom (s3.heap.objs.size + 1) scope.names (cloFrom X.env.cells scope.names [])) fp
  show codeAny _ _ (.compStart (.DictComp kx vx [⟨tg, iter, ifs, 0⟩] scope pos) 0 (.ref it) (.ref D) (compEnvC scope (cellsFrom (s3.heap.objs.size + 1) scope.names (cloFrom X.env.cells scope.names [])) s3.heap.objs.size X.env)) (compPost (model X.prog X.w) X.A X.xe use Qf (.ref D) s3.heap.objs.size) { s3 with heap := pushCells (s3.heap.push { cls := .type "dict", data := .dict #[] }) scope.names }
  have nfp : ∀ b ∈ fp, (L2.upd H2 D (o0 D)) b = none := fun b hb => (f3 b hb).1.1
  generalize hce : compEnvC scope (cellsFrom (s3.heap.objs.size + 1) scope.names (cloFrom X.env.cells scope.names [])) s3.heap.objs.size X.env = ce at I4 pg pt pk pe ⊢
  have cL : ce.locals = s3.heap.objs.size := by subst hce; rfl
  generalize hH3 : L2.upd H2 D (o0 D) = H3 at I3 I4 pg pt pk pe w0 nfp f3
  generalize hs4 : ({ s3 with heap := pushCells (s3.heap.push { cls := .type "dict", data := .dict #[] }) scope.names } : Shared) = s4 at I4 ⊢
  have st4 : tn 0 s4.heap := T.keep _ _ _ st3 fun b _ o e => by rw [← hs4]; exact pushCells_keeps _ _ _ _ (Heap.get?_push_of_some _ e)
  have stat : ∀ {σ' : L2.St} {H' : Hp} {s' : Shared}, Inv (X.blk s3 H3 scope ce fp) [] σ' H' s' → (∀ b ∈ fp, H' b = none) → ∀ b ∈ fp, FpOk (X.blk s3 H3 scope ce fp) [] H' b := fun {σ' H' s'} I' hn b hb =>
    ⟨hn b hb, (I'.ok.exf b hb).1, I'.ok.exfs b hb, .inl hb, fun x c e => (I'.ok.exf b hb).2 x c e, fun p hp => absurd (show p ∈ ([] : List (Addr × Obj)) ++ [] from hp) (by simp)⟩
  have loop : codeAny (model X.prog X.w) X.A (.compLoop (.DictComp kx vx [⟨tg, iter, ifs, 0⟩] scope pos) 0 (.ref it) (.ref D) ce) (compPost (model X.prog X.w) X.A X.xe use Qf (.ref D) s3.heap.objs.size) s4 := by
    refine compLoop_anyD (fun n s' => ∃ i H', Inv (X.blk s3 H3 scope ce fp) [] (wipe σ (own.map (·.2))) H' s' ∧ tn i s'.heap ∧ (∀ b ∈ fp, H' b = none) ∧ W i n H') ?_ m0 ⟨0, H3, I4, st4, nfp, w0⟩
    rintro n s5 ⟨i, H5, I5, st5, n5, w5⟩
    rcases turn i n H5 w5 with ⟨stop, qq⟩ | ⟨go, Nx, hNx, step⟩
    · have td := T.done (X.blk s3 H3 scope ce fp) rfl rfl rfl hc i [] s5 _ H5 (fun _ _ => False) I5 (stat I5 n5) st5 stop
      refine thnF td fun r s6 ⟨hr, I6⟩ => ?_
      subst hr
      have I7 : Inv X pins σ H5 s6 := I3.call' (ch := fp) I6.os I6.base I6.hok I6.bare fun b hb => ⟨(f3 b hb).1.2.2.2.1, (f3 b hb).1.2.1, (f3 b hb).1.2.2.2.2.1, (f3 b hb).1.2.2.2.2.2⟩
      have nC : H5 s3.heap.objs.size = none := by
        have z : H5 ce.locals = none := I6.free
        rw [cL] at z
        exact z
      obtain ⟨m, hn, _⟩ := I6.loc
      have hn : s6.heap.Ns ce.locals m := hn
      rw [cL] at hn
      exact hRR D s3.heap.objs.size s6 m H5 I7 qq hn (I3.fpOk (Nat.le_refl _) nC)
    · have ti := T.item (X.blk s3 H3 scope ce fp) rfl rfl rfl hc i [] s5 _ H5 (fun _ _ => False) I5 (stat I5 n5) st5 go
      refine thnF ti fun r s6 ⟨u, hr, h6⟩ => ?_
      subst hr
      refine thnF h6 fun _ s7 ⟨x, H7, I7, r7, y7, st7, n7⟩ => ?_
      have I7' := I7.pinned (stat I7 n7) (T.obj _ _ st7)
      refine thnF (pg.run _ s7 _ H7 x u _ I7' r7 (step x H7 y7)) fun _ s8 ⟨σ8, H8, I8, hw8, q8⟩ => ?_
      refine thnF (pt.run _ s8 σ8 H8 _ I8 q8) fun b s9 ⟨H9, I9, q9⟩ => ?_
      have fin : ∀ {s' : Shared} {H' : Hp}, Inv (X.blk s3 H3 scope ce fp) ([] ++ pinsAt fp s7.heap) σ8 H' s' → Nx H' → ∃ m, m < n ∧ ∃ i H', Inv (X.blk s3 H3 scope ce fp) [] (wipe σ (own.map (·.2))) H' s' ∧ tn i s'.heap ∧ (∀ b ∈ fp, H' b = none) ∧ W i m H' := fun {s' H'} I' nx => by
        obtain ⟨m', hm, w'⟩ := hNx H' nx
        have pin' : ∀ b ∈ fp, ∀ o, s7.heap.get? b = some o → s'.heap.get? b = some o ∧ H' b = none := fun b hb o e =>
          let z := I'.pin (b, o) (List.mem_append_right _ (List.mem_append_right _ (mem_pinsAt hb e)))
          ⟨z.1, z.2.1⟩
        have hl : (wipe σ (own.map (·.2))).length = σ8.length := by rw [← hw8, wipe_length]
        refine ⟨m', hm, i + 1, H', (I'.unpinned (pins := [])).weak hl (fun j v e => ?_), T.keep _ _ _ st7 fun b hb o e => (pin' b hb o e).1, fun b hb => ?_, w'⟩
        · rw [← hw8] at e
          exact (wipe_some e).1
        · obtain ⟨o, e, _⟩ := T.obj _ _ st7 b hb
          exact (pin' b hb o e).2
      cases b with
      | false =>
        simp only [Bool.false_eq_true, if_false] at q9 ⊢
        exact fin I9 q9
      | true =>
        simp only [if_true] at q9 ⊢
        refine thnF (pk.run _ s9 σ8 H9 _ I9 q9) fun z s10 ⟨yk, H10, I10, r10, q10⟩ => ?_
        refine thnF (pe.run _ s10 σ8 H10 _ I10 q10) fun z2 s11 ⟨yv, H11, I11, r11, st⟩ => ?_
        exact hSt s3 H3 scope ce fp _ _ _ _ _ _ _ _ _ _ _ _ I11 r10 r11 st fun s12 H12 I12 nx => fin I12 nx
  exact codeAny_compStart_dict loop (T.self X.A 0 _ _ _ st4 loop)
theorem pe_dg {o0 : Addr → HO} {St : Sto} (h0 : ∀ (H : Hp) (h : Heap), sysModules < h.objs.size → ObjOk X.prog X.w H (h.push { cls := .type "dict", data := .dict #[] }) h.objs.size (o0 h.objs.size)) (hSt : StoOk X St)
    {kx vx tg iter : Expr} {ifs : List Expr} {scope : Scope} {own : List (Str × Nat)} {pos : Pos} {wi : TI} {g : TG} {tt : TT} {tk tv : TE} (hc : X.calm = true) (hN : X.N.Nodup) (hi : PI X tg iter wi) (ok : BlkOk X.N X.env.scope scope own)
    (hg : ∀ (s : Shared) (H : Hp) (C : Addr) (cl : List (Str × Addr)) (fp : List Addr), PG (X.blk s H scope (compEnvC scope cl C X.env) fp) tg g) (ht : ∀ (s : Shared) (H : Hp) (C : Addr) (cl : List (Str × Addr)) (fp : List Addr), PTs (X.blk s H scope (compEnvC scope cl C X.env) fp) ifs tt)
    (hk : ∀ (s : Shared) (H : Hp) (C : Addr) (cl : List (Str × Addr)) (fp : List Addr), PE (X.blk s H scope (compEnvC scope cl C X.env) fp) kx tk)
    (he : ∀ (s : Shared) (H : Hp) (C : Addr) (cl : List (Str × Addr)) (fp : List Addr), PE (X.blk s H scope (compEnvC scope cl C X.env) fp) vx tv) (hs : ∀ x, foldedSetIterable iter X.env x = pure x) :
    PE X (.DictComp kx vx [⟨tg, iter, ifs, 0⟩] scope pos) (tDG o0 St wi g tt tk tv (own.map (·.2))) := by
  refine ⟨fun pins s σ H Q I h => ?_⟩
  rw [arm_eval_DictComp]
  refine dg_core h0 hSt hc hN I hi ok hg ht hk he hs h fun D C s' m H' I' q hn f => ⟨m, hn, fun h'' sb => ?_⟩
  obtain ⟨f0, f1, f2, f3, f4, f5⟩ := f
  exact ⟨.ref D, H', I'.turned (t' := s'.toks) (fun b o hb e => (sb.2 b hb).trans e) f0 f1 f3 f4 f5, rfl, q⟩
variable {G : Gd}
theorem XOk.blk (O : XOk X G) {s : Shared} {H : Hp} {scope : Scope} {env : PySem.Env} {fp : List Addr} : XOk (X.blk s H scope env fp) G := ⟨O.prog, O.w, O.K, O.calm, O.nd, O.few, O.units⟩
/-- an entry of the dict that is made at D -/
def StN (G : Gd) : Sto := fun D y z H Nx => ∃ φ η es k v xs e', Sim G φ η H ∧ D ∉ φ ∧ (D == sysModules) = false ∧ H D = some (.ext (DN G D xs)) ∧ RDT G φ H es xs ∧ RV G.K φ H k y ∧ RV G.K φ H v z ∧ kdk k = true ∧ few es = true ∧ dput k v es = some e' ∧
  ∀ ys, RDT G φ H e' ys → Nx (L2.upd H D (.ext (DN G D ys)))
theorem stoN (O : XOk X G) : StoOk X (StN G) := by
  intro s0 H0 scope env fp pins s σ H D y z u r Nx E Q I r1 r2 ⟨φ, η, es, k, v, xs, e', S, hn, hs, hD, rd, rk, rv, hk, hf, hd, hnx⟩ q
  have O' : XOk (X.blk s0 H0 scope env fp) G := O.blk
  have d : DN G D xs s.heap := (show ObjOk X.prog X.w H s.heap D (.ext (DN G D xs)) from I.hok D _ hD).1
  have dd := rd.dict O' I d
  obtain ⟨b, rfl, hb⟩ := key_is O' I hk rk r1
  have hl := few_le hf
  have ls : (10000 : Nat) < sizeLine := by decide
  obtain ⟨ys, e1, r'⟩ := rd.put hk rk r1 rv r2 hd (by omega)
  have rm : (nestedKind X.prog X.w).room X.A := by
    show X.A.units + 8 < cLine
    have := O.units
    omega
  refine wpAny_dictSet_heap (hsz := by rw [List.length_map, ← rd.1]; omega) rm hb dd fun h' dd' hsb => ?_
  rw [show storedH (xs.map nx) (nk k) b r = ys.map nx from e1] at dd'
  have dn := DN.of O' r' dd'
  have hex : ∃ q, h'.get? D = some q := by
    obtain ⟨o, _, _, e, _⟩ := dn
    exact ⟨o, e⟩
  exact q _ (L2.upd H D (.ext (DN G D ys))) (d_write I (by rw [hD]; exact True.intro) hsb hex dn.okH) (hnx ys r')
theorem RDT.evo {φ φ' : List Addr} {H H' : Hp} {es : List (Vl × Vl)} {xs : List (Vl × Value × Value)} (e : Evo φ H φ' H') (t : Trk φ H) (h : RDT G φ H es xs) : RDT G φ' H' es xs := by
  obtain ⟨hl, hz, hn, h⟩ := h
  exact ⟨hl, hz, hn, fun i p q h1 h2 => let ⟨a, c, ⟨k, d, d'⟩, v, f, g⟩ := h i p q h1 h2; ⟨a, c, ⟨k, d.evo e t, d'⟩, v, f.evo e t, g⟩⟩
theorem dc_reads (O : XOk X G) {IR : List Addr → Hp → Vl → V → Prop} {vs : List Nat} {i : EvI} {g : EvG} {t : EvT} {k e : EvE} (hv : ∀ k ∈ vs, k < X.N.length) {W : WX} {σ : L2.St} {H : Hp} {Q : V → Hp → Prop} (q : rd G X.N.length (RVl G) W (eDComp (vs.map sOf) i g t (dElt k e)) σ H Q) :
    tDG (fun D => .ext (DN G D [])) (StN G) (ri X G IR X.N.length W i) (rg G IR X.N.length vs g) (rd G X.N.length RBl W0 t) (rd G X.N.length (RVl G) W0 k) (rd G X.N.length (RVl G) W0 e) vs σ H fun v H1 => ∃ H', Unl X H1 H' ∧ Q v H' := by
  obtain ⟨φ0, η, r, S, E, p⟩ := q
  refine ⟨φ0, η, r, S, E, ?_⟩
  have p : Post G (RVl G) (fun c d H' => W c d σ H') φ0 H ((i r η).bind fun p h => (cLoop g t (dElt k e) (wipeL (vs.map sOf) r) 10000 p.1 h []).bindN fun acc h => match unlk p.2 h with | some h => newD acc h | none => .bad 223) Q := p
  cases hx : i r η with
  | bad m => rw [hx] at p; exact p
  | ex c v η' => rw [hx] at p; exact p
  | ok pr η' =>
    rw [hx] at p
    have p : Post G (RVl G) (fun c d H' => W c d σ H') φ0 H ((cLoop g t (dElt k e) (wipeL (vs.map sOf) r) 10000 pr.1 η' []).bindN fun acc h => match unlk pr.2 h with | some h => newD acc h | none => .bad 223) Q := p
    intro φ1 H1 J C e1 S1 wk c0 lk D hD hDs
    obtain ⟨C', wk', aw, st⟩ := wk.away D
    have hD0 : H D = none := e1.fresh S1.trk hD
    have E1 := (E.evo e1 S.trk).wipe O.few hv
    refine ⟨fun i m Hc => ∃ φ η c acc xs, Evo φ0 H φ Hc ∧ Sim G φ η Hc ∧ EnvR G X.N.length φ Hc (wipeL (vs.map sOf) r) (L2.wipe σ vs) ∧ C' i φ Hc c ∧ LkF X pr.2 φ H ∧ Hc D = some (.ext (DN G D xs)) ∧ D ∉ φ ∧ RDT G φ Hc acc xs ∧
      Post G (RVl G) (fun c d H' => W c d σ H') φ0 H ((cLoop g t (dElt k e) (wipeL (vs.map sOf) r) m c η acc).bindN fun acc h => match unlk pr.2 h with | some h => newD acc h | none => .bad 223) Q,
      ⟨10000, φ1, η', pr.1, [], [], e1.trans (Evo.upd hD), S1.upd hD, E1.evo (Evo.upd hD) S1.trk, wk'.evo _ _ _ _ _ _ (st φ1 H1 pr.1 c0 hD) S1.trk (Evo.upd hD), lk, upd_same, S1.notIn hD, ⟨rfl, Nat.zero_le _, List.nodup_nil, fun i p q h => by simp at h⟩, p⟩, ?_⟩
    rintro i m Hc ⟨φ, η, c, acc, xs, ev, S, Ew, hc, lk, hHD, hnD, R, p⟩
    cases m with
    | zero => exact p.elim
    | succ m =>
      have p : Post G (RVl G) (fun c d H' => W c d σ H') φ0 H ((match next η c with | .stop => Rs.ok acc η | .bad => .bad 222 | .item v c => (g v (wipeL (vs.map sOf) r) η).bindN fun r' h => (t r' h).bindN fun b h => (match b with | true => (dElt k e r' h acc).bindN fun acc h => cLoop g t (dElt k e) (wipeL (vs.map sOf) r) m c h acc | false => cLoop g t (dElt k e) (wipeL (vs.map sOf) r) m c h acc)).bindN fun acc h => match unlk pr.2 h with | some h => newD acc h | none => .bad 223) Q := p
      cases hn : next η c with
      | bad => rw [hn] at p; exact p.elim
      | stop =>
        rw [hn] at p
        refine .inl ⟨wk'.stop i φ η Hc c hc S hn, ?_⟩
        have p : Post G (RVl G) (fun c d H' => W c d σ H') φ0 H (match unlk pr.2 η with | some h => newD acc h | none => .bad 223) Q := p
        cases hu : unlk pr.2 η with
        | none => simp only [hu] at p; exact p.elim
        | some η2 =>
          simp only [hu] at p
          obtain ⟨H2, u, ev2, kp, off, S2⟩ := S.unlk ev lk hu
          have p : Post G (RVl G) (fun c d H' => W c d σ H') φ0 H (η2.new (.dic false acc) fun n h => .ok (.loc n) h) Q := p
          rw [He.new_eq] at p
          refine ⟨H2, u, p (φ ++ [D]) H2 (.ref D) (ev2.add hD0) (S2.new hnD ⟨_, by rw [off D hnD]; exact hHD, hDs, xs, rfl, R.kept kp⟩) (.loc ?_)⟩
          rw [List.getElem?_append_right (by rw [S2.len]; exact Nat.le_refl _), S2.len, Nat.sub_self]; rfl
      | item v c' =>
        rw [hn] at p
        simp only at p
        obtain ⟨hgo, hy⟩ := wk'.item i φ η Hc c v c' hc S hn
        refine .inr ⟨hgo, fun H' => ∃ φ η c acc xs, Evo φ0 H φ H' ∧ Sim G φ η H' ∧ EnvR G X.N.length φ H' (wipeL (vs.map sOf) r) (L2.wipe σ vs) ∧ C' (i + 1) φ H' c ∧ LkF X pr.2 φ H ∧ H' D = some (.ext (DN G D xs)) ∧ D ∉ φ ∧ RDT G φ H' acc xs ∧
          Post G (RVl G) (fun c d H' => W c d σ H') φ0 H ((cLoop g t (dElt k e) (wipeL (vs.map sOf) r) m c η acc).bindN fun acc h => match unlk pr.2 h with | some h => newD acc h | none => .bad 223) Q, fun H' q => ⟨m, Nat.lt_succ_self m, q⟩, fun x H' y => ?_⟩
        obtain ⟨ev2, S2, ir, hc2⟩ := hy x H' y
        refine ⟨φ, η, wipeL (vs.map sOf) r, v, S2, Ew.evo ev2 S.trk, ir, ?_⟩
        cases hg2 : g v (wipeL (vs.map sOf) r) η with
        | ex _ _ _ => rw [hg2] at p; exact p.elim
        | bad _ => rw [hg2] at p; exact p.elim
        | ok r' η2 =>
          rw [hg2] at p
          intro φ3 H3 σ3 e3 S3 E3 hw
          refine ⟨by rw [hw, wipe_sub fun k m => m], φ3, η2, r', S3, E3, ?_⟩
          have p : Post G (RVl G) (fun c d H' => W c d σ H') φ0 H (((t r' η2).bindN fun b h => (match b with | true => (dElt k e r' h acc).bindN fun acc h => cLoop g t (dElt k e) (wipeL (vs.map sOf) r) m c' h acc | false => cLoop g t (dElt k e) (wipeL (vs.map sOf) r) m c' h acc)).bindN fun acc h => match unlk pr.2 h with | some h => newD acc h | none => .bad 223) Q := p
          cases ht2 : t r' η2 with
          | ex _ _ _ => rw [ht2] at p; exact p.elim
          | bad _ => rw [ht2] at p; exact p.elim
          | ok b η4 =>
            rw [ht2] at p
            intro φ4 H4 b' e4 S4 hb
            subst hb
            have f4 := ev2.trans (e3.trans e4)
            have D4 := f4.old _ _ hHD hnD
            have n4 := f4.notIn hnD hHD
            have E4 := Ew.evo f4 S.trk
            have C4 := wk'.evo _ _ _ _ _ _ hc2 S2.trk (e3.trans e4)
            have R4 : RDT G φ4 H4 acc xs := R.evo f4 S.trk
            cases b with
            | false => exact ite_of (fun z => nomatch z) fun _ => ⟨φ4, η4, c', acc, xs, ev.trans f4, S4, E4, C4, lk.evo f4, D4, n4, R4, p⟩
            | true =>
              refine ite_of (fun _ => ?_) fun z => nomatch z
              refine ⟨φ4, η4, r', S4, E3.evo e4 S3.trk, ?_⟩
              have p : Post G (RVl G) (fun c d H' => W c d σ H') φ0 H ((((k r' η4).bindN fun k h => (e r' h).bindN fun v h => dPut k v acc h).bindN fun acc h => cLoop g t (dElt k e) (wipeL (vs.map sOf) r) m c' h acc).bindN fun acc h => match unlk pr.2 h with | some h => newD acc h | none => .bad 223) Q := p
              cases hk2 : k r' η4 with
              | ex _ _ _ => rw [hk2] at p; exact p.elim
              | bad _ => rw [hk2] at p; exact p.elim
              | ok kx η5 =>
                rw [hk2] at p
                intro φ5 H5 y5 e5 S5 rk
                refine ⟨φ5, η5, r', S5, (E3.evo e4 S3.trk).evo e5 S4.trk, ?_⟩
                have p : Post G (RVl G) (fun c d H' => W c d σ H') φ0 H ((((e r' η5).bindN fun v h => dPut kx v acc h).bindN fun acc h => cLoop g t (dElt k e) (wipeL (vs.map sOf) r) m c' h acc).bindN fun acc h => match unlk pr.2 h with | some h => newD acc h | none => .bad 223) Q := p
                cases he2 : e r' η5 with
                | ex _ _ _ => rw [he2] at p; exact p.elim
                | bad _ => rw [he2] at p; exact p.elim
                | ok w η6 =>
                  rw [he2] at p
                  intro φ6 H6 y6 e6 S6 rv
                  have p : Post G (RVl G) (fun c d H' => W c d σ H') φ0 H (((dPut kx w acc η6).bindN fun acc h => cLoop g t (dElt k e) (wipeL (vs.map sOf) r) m c' h acc).bindN fun acc h => match unlk pr.2 h with | some h => newD acc h | none => .bad 223) Q := p
                  cases hk3 : kdk kx with
                  | false => unfold dPut at p; rw [hk3] at p; exact p.elim
                  | true =>
                    cases hf3 : few acc with
                    | false => unfold dPut at p; rw [hk3, hf3] at p; exact p.elim
                    | true =>
                      cases hd3 : dput kx w acc with
                      | none => unfold dPut at p; rw [hk3, hf3, hd3] at p; exact p.elim
                      | some z =>
                        have ez : dPut kx w acc η6 = .ok z η6 := by unfold dPut; rw [hk3, hf3, hd3]
                        rw [ez] at p
                        have f6 := f4.trans (e5.trans e6)
                        have D6 := f6.old _ _ hHD hnD
                        have n6 := f6.notIn hnD hHD
                        have R6 : RDT G φ6 H6 acc xs := R.evo f6 S.trk
                        refine ⟨φ6, η6, acc, kx, w, xs, z, S6, n6, hDs, D6, R6, rk.evo e6 S5.trk, rv, hk3, hf3, hd3, fun ys r' => ?_⟩
                        exact ⟨φ6, η6, c', z, ys, (ev.trans f6).mut hD0, S6.mut n6 D6, (Ew.evo f6 S.trk).mut D6, aw.mv _ _ _ _ _ _ (wk'.evo _ _ _ _ _ _ C4 S4.trk (e5.trans e6)) n6 D6 True.intro, lk.evo f6, upd_same, n6, r'.kept (Kept.one D6 True.intro), p⟩
theorem s_dc (O : XOk X G) {IR : List Addr → Hp → Vl → V → Prop} {kx vx tg iter : Expr} {ifs : List Expr} {scope : Scope} {own : List (Str × Nat)} {pos : Pos} {i : EvI} {g : EvG} {t : EvT} {k e : EvE} (ok : blkC X.N X.env.scope scope own = true) (hi : SI X G IR tg iter i)
    (hg : ∀ s H C cl fp, SGi (X.blk s H scope (compEnvC scope cl C X.env) fp) G IR (own.map (·.2)) tg g) (ht : ∀ s H C cl fp, STs (X.blk s H scope (compEnvC scope cl C X.env) fp) G ifs t)
    (hk : ∀ s H C cl fp, SE (X.blk s H scope (compEnvC scope cl C X.env) fp) G kx k) (he : ∀ s H C cl fp, SE (X.blk s H scope (compEnvC scope cl C X.env) fp) G vx e) (hs : plainIt iter = true) :
    SE X G (.DictComp kx vx [⟨tg, iter, ifs, 0⟩] scope pos) (eDComp ((own.map (·.2)).map sOf) i g t (dElt k e)) := fun W tk => by
  have bo := blkOk_by ok
  have hv : ∀ k ∈ own.map (·.2), k < X.N.length := fun k m => by
    obtain ⟨p, hp, rfl⟩ := List.mem_map.mp m
    exact (List.getElem?_eq_some_iff.mp (bo.ix p hp)).1
  have hg' : ∀ (s : Shared) (H : Hp) (C : Addr) (cl : List (Str × Addr)) (fp : List Addr), PG (X.blk s H scope (compEnvC scope cl C X.env) fp) tg (rg G IR X.N.length (own.map (·.2)) g) := hg
  have h0 : ∀ (H : Hp) (h : Heap), sysModules < h.objs.size → ObjOk X.prog X.w H (h.push { cls := .type "dict", data := .dict #[] }) h.objs.size (.ext (DN G h.objs.size [])) := fun H h _ =>
    DN.okH (G := G) (xs := []) ⟨_, #[], 0, Heap.get?_push_size _ rfl, ⟨rfl, rfl, rfl⟩, rfl, rfl⟩
  refine peWeak (pe_unl (pe_dg (o0 := fun D => .ext (DN G D [])) (tt := rd G X.N.length RBl W0 t) (tk := rd G X.N.length (RVl G) W0 k) (tv := rd G X.N.length (RVl G) W0 e) h0 (stoN O) O.calm O.nd (hi W tk) bo hg' (fun s H C cl fp => ht s H C cl fp W0 takes0) (fun s H C cl fp => hk s H C cl fp W0 takes0) (fun s H C cl fp => he s H C cl fp W0 takes0) (folded_of hs))) fun σ H Q q => ?_
  exact dc_reads O hv q
end
end FP
end
section
namespace FP
open PySem PySem.Spec PyProof.Rows L2 PySem.SeqAt

theorem insS_mem (i k : Int) : ∀ l : List Int, k ∈ insS i l ↔ k = i ∨ k ∈ l
  | [] => by simp [insS]
  | j :: r => by
    unfold insS
    rw [ibeq_eq, iblt_eq]
    by_cases h : i = j
    · simp [h]
    · by_cases h2 : i < j
      · simp [h, h2]
      · simp [h, h2, insS_mem i k r]
        constructor
        · rintro (a | a | a) <;> simp [a]
        · rintro (a | a | a) <;> simp [a]
theorem insS_asc (i : Int) : ∀ l : List Int, l.Pairwise (· < ·) → (insS i l).Pairwise (· < ·)
  | [], _ => by simp [insS]
  | j :: r, h => by
    obtain ⟨h1, h2⟩ := List.pairwise_cons.mp h
    unfold insS
    rw [ibeq_eq, iblt_eq]
    by_cases e : i = j
    · simp only [e, decide_true]; exact h
    · by_cases e2 : i < j
      · simp only [e, e2, decide_false, decide_true]
        refine List.pairwise_cons.mpr ⟨fun k m => ?_, h⟩
        rcases List.mem_cons.mp m with rfl | m
        · exact e2
        · exact Int.lt_trans e2 (h1 k m)
      · simp only [e, e2, decide_false]
        refine List.pairwise_cons.mpr ⟨fun k m => ?_, insS_asc i r h2⟩
        rcases (insS_mem i k r).mp m with rfl | m
        · omega
        · exact h1 k m
theorem setI_mem (k : Int) : ∀ l : List Int, k ∈ setI l ↔ k ∈ l
  | [] => by simp [setI]
  | i :: r => by
    show k ∈ insS i (setI r) ↔ _
    rw [insS_mem, setI_mem k r, List.mem_cons]
theorem setI_asc : ∀ l : List Int, (setI l).Pairwise (· < ·)
  | [] => List.Pairwise.nil
  | i :: r => insS_asc i _ (setI_asc r)
theorem asc_unique : ∀ {l m : List Int}, l.Pairwise (· < ·) → m.Pairwise (· < ·) → (∀ k, k ∈ l ↔ k ∈ m) → l = m
  | [], [], _, _, _ => rfl
  | [], b :: m, _, _, h => by have := (h b).mpr List.mem_cons_self; cases this
  | a :: l, [], _, _, h => by have := (h a).mp List.mem_cons_self; cases this
  | a :: l, b :: m, hl, hm, h => by
    obtain ⟨l1, l2⟩ := List.pairwise_cons.mp hl
    obtain ⟨m1, m2⟩ := List.pairwise_cons.mp hm
    have e : a = b := by
      rcases List.mem_cons.mp ((h a).mp List.mem_cons_self) with e | ma
      · exact e
      · rcases List.mem_cons.mp ((h b).mpr List.mem_cons_self) with e | mb
        · exact e.symm
        · have := l1 b mb
          have := m1 a ma
          omega
    subst e
    rw [asc_unique l2 m2 fun k => ?_]
    have hk := h k
    rw [List.mem_cons, List.mem_cons] at hk
    constructor
    · intro mk
      have := l1 k mk
      rcases hk.mp (.inr mk) with e | x
      · omega
      · exact x
    · intro mk
      have := m1 k mk
      rcases hk.mpr (.inr mk) with e | x
      · omega
      · exact x
theorem intsL_some : ∀ {xs : List Vl} {ns : List Int}, intsL xs = some ns → xs = ns.map .int
  | [], ns, h => by cases h; rfl
  | x :: xs, ns, h => by
    cases x with
    | int i =>
      have h' : (match intsL xs with | some ns => some (i :: ns) | none => none) = some ns := h
      cases hr : intsL xs with
      | none => rw [hr] at h'; cases h'
      | some ms =>
        rw [hr] at h'
        cases h'
        rw [intsL_some hr]; rfl
    | _ => cases h
section
variable {X : Cx} {G : Gd}
theorem RVs.ofInts {K : PySem.W.Frag} {φ : List Addr} {H : Hp} : ∀ (ns : List Int), RVs K φ H (ns.map .int) (ns.map V.int)
  | [] => RVs.nil
  | i :: ns => RVs.cons (.int i) (RVs.ofInts ns)
/-- set(a tuple of ints) -/
theorem cr_setI (hc : X.calm = true) : CallR X (.type "set") fun vs H Q => ∃ (l : Addr) (ns : List Int), vs = [.ref l] ∧ SqT X.K H l (ns.map V.int) ∧ ns.length < 64 ∧ ∀ p n, H p = none → n ≤ ns.length → Q (.ref p) (L2.upd H p (SetO X.w p (fun j => decide (j ∈ ns)) n)) := by
  intro pins s σ H vs us Q I r ⟨l, ns, e, hq, hl, q⟩
  subst e
  obtain ⟨u, rfl, ru⟩ := vals1 r
  cases (show u = Value.ref l from ru)
  obtain ⟨its, rv, pt, hz⟩ := I.tuple hq
  refine call_set_tupI ns (I.ok.hd hc) (show s.heap.IsTuple l its.toArray from pt) (ints_of_vals rv) (by unfold scanBound; omega) fun h' tk c R1 hcn k => ?_
  exact ⟨.ref s.heap.objs.size, _, I.laid (t' := tk) k (Nat.le_refl _) (setO_new R1), rfl, q _ c (I.hok.fresh (Nat.le_refl _)) hcn⟩
theorem l_sortedSet (O : XOk X G) {a : Expr} {f : EvE} {np np2 pos pos2 : Pos} (B : Bn X "sorted" (.builtin "sorted")) (B2 : Bn X "set" (.type "set")) (hn : ∀ v p, a ≠ .Starred v p) (ha : SE X G a f) :
    SL X G (.Call (.Name "sorted" np) [.Call (.Name "set" np2) [a] [] pos2] [] pos) (qSortedSet f) := fun W tk => by
  have hn2 : ∀ v p, Expr.Call (.Name "set" np2) [a] [] pos2 ≠ .Starred v p := fun v p e => nomatch e
  refine ⟨fun pins s σ H Q I q => (pe_callU B (.inl ⟨_, rfl⟩) (cr_sortedSet O.calm) (pa_cons (pe_callU B2 (.inr ⟨_, rfl⟩) (cr_setI O.calm) (pa_cons (ha W tk) pa_nil (starEach_cons hn)) (NoStar.one hn)) pa_nil (starEach_cons hn2)) (NoStar.one hn2)).run pins s σ H Q I ?_⟩
  obtain ⟨φ, η, r, S, E, p⟩ := q
  refine ⟨φ, η, r, S, E, ?_⟩
  have p : Post G (RL G H) (fun c d H' => W c d σ H') φ H ((f r η).bind fun v h => match v with | .tup xs => (match Nat.blt xs.length 64 with | true => (match intsL xs with | some ns => .ok ((setI ns).map .int) h | none => .bad 83) | false => .bad 83) | _ => .bad 84) Q := p
  cases hf : f r η with
  | bad n => rw [hf] at p; exact p
  | ex c v η' => rw [hf] at p; exact p
  | ok x η' =>
    rw [hf] at p
    intro φ1 H1 v e1 S1 rx
    cases rx with
    | @tup xs a vs hq hl hx =>
      have p2 : Post G (RL G H) (fun c d H' => W c d σ H') φ H (match Nat.blt xs.length 64 with | true => (match intsL xs with | some ns => .ok ((setI ns).map .int) η' | none => .bad 83) | false => .bad 83) Q := p
      clear p
      cases hb : Nat.blt xs.length 64 with
      | false => rw [hb] at p2; exact p2.elim
      | true =>
        rw [hb] at p2
        cases hi : intsL xs with
        | none => simp only [hi] at p2; exact p2.elim
        | some ns =>
          simp only [hi] at p2
          have ex := intsL_some hi
          subst ex
          cases RVs.ints ⟨hl, hx⟩
          have hlt := blt_lt hb
          rw [List.length_map] at hlt
          refine ⟨a, ns, rfl, by rw [O.K]; exact hq.t, hlt, fun p0 n hp hnn => ?_⟩
          refine ⟨p0, _, n, rfl, upd_same, by omega, fun ms p1 h1 h2 h3 hp1 => ?_⟩
          have em : ms = setI ns := asc_unique h1 (setI_asc ns) fun k => by rw [h2 k, setI_mem, decide_eq_true_iff]
          subst em
          have hp10 : p1 ≠ p0 := by rintro rfl; rw [upd_same] at hp1; cases hp1
          have hp1' : H1 p1 = none := by rw [upd_ne hp10] at hp1; exact hp1
          have ev1 : Evo φ1 H1 φ1 (L2.upd H1 p0 (SetO X.w p0 (fun j => decide (j ∈ ns)) n)) := Evo.upd hp
          have ev := ev1.trans (Evo.upd (o := HO.lst ((setI ns).map V.int)) hp1)
          exact p2 φ1 _ (.ref p1) (e1.trans ev) ((S1.upd hp).upd hp1) ⟨p1, _, rfl, e1.fresh S1.trk hp1', upd_same, S1.notIn hp1', RVs.ofInts _⟩
    | _ => exact p.elim
end
end FP
end
section
namespace FP
open PySem PySem.Spec PyProof.Rows L2 PySem.SeqAt

section
variable {X : Cx} {G : Gd}
/-- a walk that nothing changed elsewhere touches -/
structure WalkF (G : Gd) (IR : List Addr → Hp → Vl → V → Prop) (J : It) (C : Nat → List Addr → Hp → Cu → Prop) : Prop extends Walk0 G IR J C where
  aw : ∀ D, Away D C
def PostIF (G : Gd) (IR : List Addr → Hp → Vl → V → Prop) (W : Value → Option Addr → Hp → Prop) (φ : List Addr) (H : Hp) (x : Rs (Cu × Option Nat)) (R : It → Hp → Prop) : Prop := match x with
  | .ok p η' => ∀ φ' H' J C, Evo φ H φ' H' → Sim G φ' η' H' → WalkF G IR J C → C 0 φ' H' p.1 → R J H'
  | .ex c as η' => ∀ φ' H' cls d, Evo φ H φ' H' → Sim G φ' η' H' → ExR G φ' H' c as cls d → W cls d H'
  | .bad _ => False
def rif (G : Gd) (IR : List Addr → Hp → Vl → V → Prop) (n : Nat) (W : WX) (i : EvI) : TI := fun σ H R => ∃ φ η r, Sim G φ η H ∧ EnvR G n φ H r σ ∧ PostIF G IR (fun c d H' => W c d σ H') φ H (i r η) R
def SIF (X : Cx) (G : Gd) (IR : List Addr → Hp → Vl → V → Prop) (tg iter : Expr) (i : EvI) : Prop := ∀ W, Takes X W → PI X tg iter (rif G IR X.N.length W i)
theorem rif_bind {α β : Type} {R : List Addr → Hp → α → β → Prop} {IR : List Addr → Hp → Vl → V → Prop} {n : Nat} {W : WX} {f : Env → He → Rs α} {k : α → Env → He → Rs (Cu × Option Nat)} {σ : L2.St} {H : Hp} {Q : It → Hp → Prop} (h : rif G IR n W (fun r h => (f r h).bind fun x h => k x r h) σ H Q) :
    rd G n R W f σ H fun v H1 => ∃ φ η r x, Sim G φ η H1 ∧ EnvR G n φ H1 r σ ∧ R φ H1 x v ∧ PostIF G IR (fun c d H' => W c d σ H') φ H1 (k x r η) Q := by
  obtain ⟨φ, η, r, S, E, p⟩ := h
  refine ⟨φ, η, r, S, E, ?_⟩
  have p : PostIF G IR (fun c d H' => W c d σ H') φ H ((f r η).bind fun x h => k x r h) Q := p
  cases hf : f r η with
  | bad m => rw [hf] at p; exact p
  | ex c v η' => rw [hf] at p; exact p
  | ok x η' =>
    rw [hf] at p
    have p : PostIF G IR (fun c d H' => W c d σ H') φ H (k x r η') Q := p
    intro φ' H' b e S' rr
    refine ⟨φ', η', r, x, S', E.evo e S.trk, rr, ?_⟩
    cases hk : k x r η' with
    | bad m => rw [hk] at p; exact p
    | ex c v η2 => rw [hk] at p; exact fun φ2 H2 cls d e2 => p φ2 H2 cls d (e.trans e2)
    | ok y η2 => rw [hk] at p; exact fun φ2 H2 J C e2 S2 w c => p φ2 H2 J C (e.trans e2) S2 w c
theorem walkF_seq {b : Bool} {a : Addr} : WalkF G (RVl G) (ItB G.K b a) fun i φ H c => Src G (fun _ => True) φ H b a i c :=
  { walk_seq0 with aw := fun D => ⟨fun i φ H c o u h hn hD nt => h.mut hD trivial nt⟩ }
theorem si_seqF (O : XOk X G) {tg e : Expr} {f : EvE} (he : SE X G e f) : SIF X G (RVl G) tg e (iSeq f) := fun W tk => by
  refine piWeak (pi_of iterV_seq (he W tk)) fun σ H R q => ?_
  refine (rif_bind (R := RVl G) (k := fun v _ h => match seqCur h v with | some c => .ok (c, none) h | none => .bad 206) q).imp ?_
  rintro v H1 ⟨φ1, η1, r1, x, S1, E1, R1, p1⟩
  cases hc : seqCur η1 x with
  | none => simp only [hc] at p1; exact p1.elim
  | some c =>
    simp only [hc] at p1
    cases R1 with
    | @tup xs a vs hq hl hx =>
      cases hc
      exact ⟨true, a, vs, rfl, by rw [O.K]; exact hq.t, p1 φ1 H1 (ItB X.K true a) (fun i φ H c => Src G (fun _ => True) φ H true a i c) Evo.refl S1 (by rw [O.K]; exact walkF_seq) (Src.tup hq ⟨hl, hx⟩ (i := 0))⟩
    | @fl xs a vs hq hl hx =>
      cases hc
      exact ⟨false, a, vs, rfl, by rw [O.K]; exact hq.l, p1 φ1 H1 (ItB X.K false a) (fun i φ H c => Src G (fun _ => True) φ H false a i c) Evo.refl S1 (by rw [O.K]; exact walkF_seq) (Src.fl hq ⟨hl, hx⟩ (i := 0))⟩
    | @loc m a hn =>
      unfold seqCur at hc
      simp only at hc
      cases hg : η1.get m with
      | none => simp only [hg] at hc; cases hc
      | some o =>
        cases o with
        | dic _ _ => simp only [hg] at hc; cases hc
        | ins _ _ => simp only [hg] at hc; cases hc
        | lst xs =>
          simp only [hg] at hc
          cases hc
          obtain ⟨vs, hH, _⟩ := locList S1 hn hg
          exact ⟨false, a, vs, rfl, SqL.of hH, p1 φ1 H1 (ItB X.K false a) (fun i φ H c => Src G (fun _ => True) φ H false a i c) Evo.refl S1 (by rw [O.K]; exact walkF_seq) (Src.loc hn)⟩
    | _ => cases hc
theorem wipeL_evo {n : Nat} {φ : List Addr} {H : Hp} {r : Env} {σ : L2.St} (E : EnvR G n φ H r σ) (h9 : n ≤ 49) {vs : List Nat} (hv : ∀ k ∈ vs, k < n) : EnvR G n φ H (wipeL (vs.map sOf) r) (L2.wipe σ vs) := E.wipe h9 hv
theorem lc2_reads (O : XOk X G) {IR IR1 : List Addr → Hp → Vl → V → Prop} {vs vs1 : List Nat} {i i1 : EvI} {g g1 : EvG} {t t1 : EvT} {e : EvE} (hv : ∀ k ∈ vs, k < X.N.length) (hv1 : ∀ k ∈ vs1, k ∈ vs) {W : WX} {σ : L2.St} {H : Hp} {Q : V → Hp → Prop}
    (q : rdL G X.N.length W (qComp (vs.map sOf) i g t (cFor (vs1.map sOf) i1 g1 t1 (cEltF e))) σ H Q) :
    tLc2 (ri X G IR X.N.length W i) (rg G IR X.N.length vs g) (rd G X.N.length RBl W0 t) (rif G IR1 X.N.length W0 i1) (rg G IR1 X.N.length vs1 g1) (rd G X.N.length RBl W0 t1) (rd G X.N.length (RVl G) W0 e) vs vs1 σ H fun v H1 => ∃ H', Unl X H1 H' ∧ Q v H' := by
  obtain ⟨φ0, η, r, S, E, p⟩ := q
  refine ⟨φ0, η, r, S, E, ?_⟩
  generalize hB : cFor (vs1.map sOf) i1 g1 t1 (cEltF e) = B at p
  have p : Post G (RL G H) (fun c d H' => W c d σ H') φ0 H ((i r η).bind fun p h => (cLoop g t B (wipeL (vs.map sOf) r) 10000 p.1 h []).bindN fun acc h => match unlk p.2 h with | some h => .ok acc.reverse h | none => .bad 223) Q := p
  cases hx : i r η with
  | bad m => rw [hx] at p; exact p
  | ex c v η' => rw [hx] at p; exact p
  | ok pr η' =>
    rw [hx] at p
    have p : Post G (RL G H) (fun c d H' => W c d σ H') φ0 H ((cLoop g t B (wipeL (vs.map sOf) r) 10000 pr.1 η' []).bindN fun acc h => match unlk pr.2 h with | some h => .ok acc.reverse h | none => .bad 223) Q := p
    intro φ1 H1 J C e1 S1 wk c0 lk D hD
    obtain ⟨C', wk', aw, st⟩ := wk.away D
    have hD0 : H D = none := e1.fresh S1.trk hD
    have E1 := (E.evo e1 S.trk).wipe O.few hv
    refine ⟨fun i m Hc => ∃ φ η c acc ws, Evo φ0 H φ Hc ∧ Sim G φ η Hc ∧ EnvR G X.N.length φ Hc (wipeL (vs.map sOf) r) (L2.wipe σ vs) ∧ C' i φ Hc c ∧ LkF X pr.2 φ H ∧ Hc D = some (.lst ws) ∧ D ∉ φ ∧ RVs G.K φ Hc acc.reverse ws ∧
      Post G (RL G H) (fun c d H' => W c d σ H') φ0 H ((cLoop g t B (wipeL (vs.map sOf) r) m c η acc).bindN fun acc h => match unlk pr.2 h with | some h => .ok acc.reverse h | none => .bad 223) Q,
      ⟨10000, φ1, η', pr.1, [], [], e1.trans (Evo.upd hD), S1.upd hD, E1.evo (Evo.upd hD) S1.trk, wk'.evo _ _ _ _ _ _ (st φ1 H1 pr.1 c0 hD) S1.trk (Evo.upd hD), lk, upd_same, S1.notIn hD, RVs.nil, p⟩, ?_⟩
    rintro i m Hc ⟨φ, η, c, acc, ws, ev, S, Ew, hc, lk, hHD, hnD, R, p⟩
    cases m with
    | zero => exact p.elim
    | succ m =>
      have p : Post G (RL G H) (fun c d H' => W c d σ H') φ0 H ((match next η c with | .stop => Rs.ok acc η | .bad => .bad 222 | .item v c => (g v (wipeL (vs.map sOf) r) η).bindN fun r' h => (t r' h).bindN fun k h => (match k with | true => (B r' h acc).bindN fun acc h => cLoop g t B (wipeL (vs.map sOf) r) m c h acc | false => cLoop g t B (wipeL (vs.map sOf) r) m c h acc)).bindN fun acc h => match unlk pr.2 h with | some h => .ok acc.reverse h | none => .bad 223) Q := p
      cases hn : next η c with
      | bad => rw [hn] at p; exact p.elim
      | stop =>
        rw [hn] at p
        refine .inl ⟨wk'.stop i φ η Hc c hc S hn, ?_⟩
        have p : Post G (RL G H) (fun c d H' => W c d σ H') φ0 H (match unlk pr.2 η with | some h => .ok acc.reverse h | none => .bad 223) Q := p
        cases hu : unlk pr.2 η with
        | none => simp only [hu] at p; exact p.elim
        | some η2 =>
          simp only [hu] at p
          obtain ⟨H2, u, ev2, kp, off, S2⟩ := S.unlk ev lk hu
          exact ⟨H2, u, p φ H2 (.ref D) ev2 S2 ⟨D, ws, rfl, hD0, by rw [off D hnD]; exact hHD, hnD, R.kept kp⟩⟩
      | item v c' =>
        rw [hn] at p
        simp only at p
        obtain ⟨hgo, hy⟩ := wk'.item i φ η Hc c v c' hc S hn
        refine .inr ⟨hgo, fun H' => ∃ φ η c acc ws, Evo φ0 H φ H' ∧ Sim G φ η H' ∧ EnvR G X.N.length φ H' (wipeL (vs.map sOf) r) (L2.wipe σ vs) ∧ C' (i + 1) φ H' c ∧ LkF X pr.2 φ H ∧ H' D = some (.lst ws) ∧ D ∉ φ ∧ RVs G.K φ H' acc.reverse ws ∧
          Post G (RL G H) (fun c d H' => W c d σ H') φ0 H ((cLoop g t B (wipeL (vs.map sOf) r) m c η acc).bindN fun acc h => match unlk pr.2 h with | some h => .ok acc.reverse h | none => .bad 223) Q, fun H' q => ⟨m, Nat.lt_succ_self m, q⟩, fun x H' y => ?_⟩
        obtain ⟨ev2, S2, ir, hc2⟩ := hy x H' y
        refine ⟨φ, η, wipeL (vs.map sOf) r, v, S2, Ew.evo ev2 S.trk, ir, ?_⟩
        cases hg2 : g v (wipeL (vs.map sOf) r) η with
        | ex _ _ _ => rw [hg2] at p; exact p.elim
        | bad _ => rw [hg2] at p; exact p.elim
        | ok r' η2 =>
          rw [hg2] at p
          intro φ3 H3 σ3 e3 S3 E3 hw
          refine ⟨by rw [hw, wipe_sub fun k m => m], φ3, η2, r', S3, E3, ?_⟩
          have p : Post G (RL G H) (fun c d H' => W c d σ H') φ0 H (((t r' η2).bindN fun k h => (match k with | true => (B r' h acc).bindN fun acc h => cLoop g t B (wipeL (vs.map sOf) r) m c' h acc | false => cLoop g t B (wipeL (vs.map sOf) r) m c' h acc)).bindN fun acc h => match unlk pr.2 h with | some h => .ok acc.reverse h | none => .bad 223) Q := p
          cases ht2 : t r' η2 with
          | ex _ _ _ => rw [ht2] at p; exact p.elim
          | bad _ => rw [ht2] at p; exact p.elim
          | ok k η4 =>
            rw [ht2] at p
            intro φ4 H4 b e4 S4 hb
            subst hb
            have f4 := ev2.trans (e3.trans e4)
            have D4 := f4.old _ _ hHD hnD
            have n4 := f4.notIn hnD hHD
            have E4 := Ew.evo f4 S.trk
            have C4 := wk'.evo _ _ _ _ _ _ hc2 S2.trk (e3.trans e4)
            cases k with
            | false => exact ite_of (fun z => nomatch z) fun _ => ⟨φ4, η4, c', acc, ws, ev.trans f4, S4, E4, C4, lk.evo f4, D4, n4, R.evo f4 S.trk, p⟩
            | true =>
              refine ite_of (fun _ => ?_) fun z => nomatch z
              have E34 := E3.evo e4 S3.trk
              refine ⟨φ4, η4, r', S4, E34, ?_⟩
              subst hB
              have p : Post G (RL G H) (fun c d H' => W c d σ H') φ0 H ((((i1 r' η4).bindN fun p h => cLoop g1 t1 (cEltF e) (wipeL (vs1.map sOf) r') 10000 p.1 h acc).bindN fun acc h => cLoop g t (cFor (vs1.map sOf) i1 g1 t1 (cEltF e)) (wipeL (vs.map sOf) r) m c' h acc).bindN fun acc h => match unlk pr.2 h with | some h => .ok acc.reverse h | none => .bad 223) Q := p
              cases hx1 : i1 r' η4 with
              | ex _ _ _ => rw [hx1] at p; exact p.elim
              | bad _ => rw [hx1] at p; exact p.elim
              | ok pr1 η5 =>
                rw [hx1] at p
                have p : Post G (RL G H) (fun c d H' => W c d σ H') φ0 H (((cLoop g1 t1 (cEltF e) (wipeL (vs1.map sOf) r') 10000 pr1.1 η5 acc).bindN fun acc h => cLoop g t (cFor (vs1.map sOf) i1 g1 t1 (cEltF e)) (wipeL (vs.map sOf) r) m c' h acc).bindN fun acc h => match unlk pr.2 h with | some h => .ok acc.reverse h | none => .bad 223) Q := p
                intro φ5 H5 J1 C1 e5 S5 wk1 c01
                have D5 := e5.old _ _ D4 n4
                have n5 := e5.notIn n4 D4
                refine ⟨fun j k Hd => ∃ φ η c acc ws, Evo φ0 H φ Hd ∧ LkF X pr.2 φ H ∧ Sim G φ η Hd ∧ EnvR G X.N.length φ Hd (wipeL (vs.map sOf) r) (L2.wipe σ vs) ∧ EnvR G X.N.length φ Hd (wipeL (vs1.map sOf) r') (L2.wipe σ3 vs1) ∧ C' (_ + 1) φ Hd c' ∧ C1 j φ Hd c ∧ Hd D = some (.lst ws) ∧ D ∉ φ ∧ RVs G.K φ Hd acc.reverse ws ∧
                  Post G (RL G H) (fun c d H' => W c d σ H') φ0 H (((cLoop g1 t1 (cEltF e) (wipeL (vs1.map sOf) r') k c η acc).bindN fun acc h => cLoop g t (cFor (vs1.map sOf) i1 g1 t1 (cEltF e)) (wipeL (vs.map sOf) r) m c' h acc).bindN fun acc h => match unlk pr.2 h with | some h => .ok acc.reverse h | none => .bad 223) Q,
                  ⟨10000, φ5, η5, pr1.1, acc, ws, (ev.trans f4).trans e5, (lk.evo f4).evo e5, S5, E4.evo e5 S4.trk, (E34.wipe O.few fun k m => hv k (hv1 k m)).evo e5 S4.trk, wk'.evo _ _ _ _ _ _ C4 S4.trk e5, c01, D5, n5, (R.evo f4 S.trk).evo e5 S4.trk, p⟩, ?_⟩
                clear p R hHD hnD D5 n5
                rintro j k Hd ⟨φ, η, c, acc, ws, evA, evB, S, Ew0, Ew, hc0, hc, hHD, hnD, R, p⟩
                cases k with
                | zero => exact p.elim
                | succ k =>
                  have p : Post G (RL G H) (fun c d H' => W c d σ H') φ0 H (((match next η c with | .stop => Rs.ok acc η | .bad => .bad 222 | .item v c => (g1 v (wipeL (vs1.map sOf) r') η).bindN fun r2 h => (t1 r2 h).bindN fun b h => (match b with | true => (cEltF e r2 h acc).bindN fun acc h => cLoop g1 t1 (cEltF e) (wipeL (vs1.map sOf) r') k c h acc | false => cLoop g1 t1 (cEltF e) (wipeL (vs1.map sOf) r') k c h acc)).bindN fun acc h => cLoop g t (cFor (vs1.map sOf) i1 g1 t1 (cEltF e)) (wipeL (vs.map sOf) r) m c' h acc).bindN fun acc h => match unlk pr.2 h with | some h => .ok acc.reverse h | none => .bad 223) Q := p
                  cases hn1 : next η c with
                  | bad => rw [hn1] at p; exact p.elim
                  | stop =>
                    rw [hn1] at p
                    exact .inl ⟨wk1.stop j φ η Hd c hc S hn1, φ, η, c', acc, ws, evA, S, Ew0, hc0, evB, hHD, hnD, R, p⟩
                  | item v1 c1' =>
                    rw [hn1] at p
                    simp only at p
                    obtain ⟨hgo1, hy1⟩ := wk1.item j φ η Hd c v1 c1' hc S hn1
                    refine .inr ⟨hgo1, fun H' => ∃ φ η c acc ws, Evo φ0 H φ H' ∧ LkF X pr.2 φ H ∧ Sim G φ η H' ∧ EnvR G X.N.length φ H' (wipeL (vs.map sOf) r) (L2.wipe σ vs) ∧ EnvR G X.N.length φ H' (wipeL (vs1.map sOf) r') (L2.wipe σ3 vs1) ∧ C' (_ + 1) φ H' c' ∧ C1 (j + 1) φ H' c ∧ H' D = some (.lst ws) ∧ D ∉ φ ∧ RVs G.K φ H' acc.reverse ws ∧
                      Post G (RL G H) (fun c d H' => W c d σ H') φ0 H (((cLoop g1 t1 (cEltF e) (wipeL (vs1.map sOf) r') k c η acc).bindN fun acc h => cLoop g t (cFor (vs1.map sOf) i1 g1 t1 (cEltF e)) (wipeL (vs.map sOf) r) m c' h acc).bindN fun acc h => match unlk pr.2 h with | some h => .ok acc.reverse h | none => .bad 223) Q, fun H' q => ⟨k, Nat.lt_succ_self k, q⟩, fun x1 H6 y1 => ?_⟩
                    obtain ⟨ev6, S6, ir1, hc6⟩ := hy1 x1 H6 y1
                    refine ⟨φ, η, wipeL (vs1.map sOf) r', v1, S6, Ew.evo ev6 S.trk, ir1, ?_⟩
                    cases hg3 : g1 v1 (wipeL (vs1.map sOf) r') η with
                    | ex _ _ _ => rw [hg3] at p; exact p.elim
                    | bad _ => rw [hg3] at p; exact p.elim
                    | ok r2 η7 =>
                      rw [hg3] at p
                      intro φ7 H7 σ7 e7 S7 E7 hw7
                      refine ⟨by rw [hw7, wipe_sub fun k m => m], φ7, η7, r2, S7, E7, ?_⟩
                      have p : Post G (RL G H) (fun c d H' => W c d σ H') φ0 H ((((t1 r2 η7).bindN fun b h => (match b with | true => (cEltF e r2 h acc).bindN fun acc h => cLoop g1 t1 (cEltF e) (wipeL (vs1.map sOf) r') k c1' h acc | false => cLoop g1 t1 (cEltF e) (wipeL (vs1.map sOf) r') k c1' h acc)).bindN fun acc h => cLoop g t (cFor (vs1.map sOf) i1 g1 t1 (cEltF e)) (wipeL (vs.map sOf) r) m c' h acc).bindN fun acc h => match unlk pr.2 h with | some h => .ok acc.reverse h | none => .bad 223) Q := p
                      cases ht3 : t1 r2 η7 with
                      | ex _ _ _ => rw [ht3] at p; exact p.elim
                      | bad _ => rw [ht3] at p; exact p.elim
                      | ok b1 η8 =>
                        rw [ht3] at p
                        intro φ8 H8 b8 e8 S8 hb8
                        subst hb8
                        have f8 := ev6.trans (e7.trans e8)
                        have D8 := f8.old _ _ hHD hnD
                        have n8 := f8.notIn hnD hHD
                        have C8 := wk1.evo _ _ _ _ _ _ hc6 S6.trk (e7.trans e8)
                        have C80 := wk'.evo _ _ _ _ _ _ hc0 S.trk f8
                        cases b1 with
                        | false => exact ite_of (fun z => nomatch z) fun _ => ⟨φ8, η8, c1', acc, ws, evA.trans f8, evB.evo f8, S8, Ew0.evo f8 S.trk, Ew.evo f8 S.trk, C80, C8, D8, n8, R.evo f8 S.trk, p⟩
                        | true =>
                          refine ite_of (fun _ => ?_) fun z => nomatch z
                          refine ⟨φ8, η8, r2, S8, E7.evo e8 S7.trk, ?_⟩
                          have p : Post G (RL G H) (fun c d H' => W c d σ H') φ0 H (((((e r2 η8).bindN fun v h => match few acc with | true => .ok (v :: acc) h | false => .bad 228).bindN fun acc h => cLoop g1 t1 (cEltF e) (wipeL (vs1.map sOf) r') k c1' h acc).bindN fun acc h => cLoop g t (cFor (vs1.map sOf) i1 g1 t1 (cEltF e)) (wipeL (vs.map sOf) r) m c' h acc).bindN fun acc h => match unlk pr.2 h with | some h => .ok acc.reverse h | none => .bad 223) Q := p
                          cases he2 : e r2 η8 with
                          | ex _ _ _ => rw [he2] at p; exact p.elim
                          | bad _ => rw [he2] at p; exact p.elim
                          | ok w η9 =>
                            rw [he2] at p
                            intro φ9 H9 y9 e9 S9 ry
                            cases hf : few acc with
                            | false =>
                              simp only [Rs.bindN, hf] at p
                              exact p.elim
                            | true =>
                              have p : Post G (RL G H) (fun c d H' => W c d σ H') φ0 H (((cLoop g1 t1 (cEltF e) (wipeL (vs1.map sOf) r') k c1' η9 (w :: acc)).bindN fun acc h => cLoop g t (cFor (vs1.map sOf) i1 g1 t1 (cEltF e)) (wipeL (vs.map sOf) r) m c' h acc).bindN fun acc h => match unlk pr.2 h with | some h => .ok acc.reverse h | none => .bad 223) Q := by
                                simp only [Rs.bindN, hf] at p ⊢
                                exact p
                              have f9 := f8.trans e9
                              have D9 := f9.old _ _ hHD hnD
                              have n9 := f9.notIn hnD hHD
                              have lw : ws.length = acc.length := by have := R.1; simp at this; omega
                              have ls : (10000 : Nat) < sizeLine := by decide
                              have hfl := few_le hf
                              refine ⟨ws, D9, by omega, φ9, η9, c1', w :: acc, ws ++ [y9], (evA.trans f9).mut hD0, evB.evo f9, S9.mut n9 D9, (Ew0.evo f9 S.trk).mut D9, (Ew.evo f9 S.trk).mut D9, aw.mv _ _ _ _ _ _ (wk'.evo _ _ _ _ _ _ C80 S8.trk e9) n9 D9 True.intro, (wk1.aw D).mv _ _ _ _ _ _ (wk1.evo _ _ _ _ _ _ C8 S8.trk e9) n9 D9 True.intro, upd_same, n9, ?_, p⟩
                              rw [List.reverse_cons]
                              exact ((R.evo f9 S.trk).append (RVs.cons ry RVs.nil)).mut D9
theorem blk_sub {own : List (Str × Nat)} {vs1 : List Nat} (h : vs1.all (fun k => (own.map (·.2)).elem k) = true) : ∀ k ∈ vs1, k ∈ own.map (·.2) := fun k m => by
  have := List.all_eq_true.mp h k m
  exact List.elem_iff.mp this
theorem l_lc2 (O : XOk X G) {IR IR1 : List Addr → Hp → Vl → V → Prop} {elt tg iter tg1 iter1 : Expr} {ifs ifs1 : List Expr} {scope : Scope} {own : List (Str × Nat)} {vs1 : List Nat} {pos : Pos} {i i1 : EvI} {g g1 : EvG} {t t1 : EvT} {e : EvE} (ok : blkC X.N X.env.scope scope own = true) (hv1 : ∀ k ∈ vs1, k ∈ own.map (·.2)) (hi : SI X G IR tg iter i)
    (hg : ∀ s H C cl fp, SGi (X.blk s H scope (compEnvC scope cl C X.env) fp) G IR (own.map (·.2)) tg g) (ht : ∀ s H C cl fp, STs (X.blk s H scope (compEnvC scope cl C X.env) fp) G ifs t)
    (hi1 : ∀ s H C cl fp, SIF (X.blk s H scope (compEnvC scope cl C X.env) fp) G IR1 tg1 iter1 i1)
    (hg1 : ∀ s H C cl fp, SGi (X.blk s H scope (compEnvC scope cl C X.env) fp) G IR1 vs1 tg1 g1) (ht1 : ∀ s H C cl fp, STs (X.blk s H scope (compEnvC scope cl C X.env) fp) G ifs1 t1)
    (he : ∀ s H C cl fp, SE (X.blk s H scope (compEnvC scope cl C X.env) fp) G elt e) (hs : plainIt iter = true) (hs1 : plainIt iter1 = true) :
    SL X G (.ListComp elt [⟨tg, iter, ifs, 0⟩, ⟨tg1, iter1, ifs1, 0⟩] scope pos) (qComp ((own.map (·.2)).map sOf) i g t (cFor (vs1.map sOf) i1 g1 t1 (cEltF e))) := fun W tk => by
  have bo := blkOk_by ok
  have hv : ∀ k ∈ own.map (·.2), k < X.N.length := fun k m => by
    obtain ⟨p, hp, rfl⟩ := List.mem_map.mp m
    exact (List.getElem?_eq_some_iff.mp (bo.ix p hp)).1
  have hg' : ∀ (s : Shared) (H : Hp) (C : Addr) (cl : List (Str × Addr)) (fp : List Addr), PG (X.blk s H scope (compEnvC scope cl C X.env) fp) tg (rg G IR X.N.length (own.map (·.2)) g) := hg
  have hg1' : ∀ (s : Shared) (H : Hp) (C : Addr) (cl : List (Str × Addr)) (fp : List Addr), PG (X.blk s H scope (compEnvC scope cl C X.env) fp) tg1 (rg G IR1 X.N.length vs1 g1) := hg1
  refine peWeak (pe_unl (pe_lc2 (wi1 := rif G IR1 X.N.length W0 i1) (tt := rd G X.N.length RBl W0 t) (tt1 := rd G X.N.length RBl W0 t1) (te := rd G X.N.length (RVl G) W0 e) O.calm O.nd (hi W tk) bo hv1 hg' (fun s H C cl fp => ht s H C cl fp W0 takes0) (fun s H C cl fp => hi1 s H C cl fp W0 takes0) hg1' (fun s H C cl fp => ht1 s H C cl fp W0 takes0) (fun s H C cl fp => he s H C cl fp W0 takes0) (folded_of hs) (fun _ => folded_of hs1))) fun σ H Q q => ?_
  exact lc2_reads O hv hv1 q
theorem s_setLc2 (O : XOk X G) {IR IR1 : List Addr → Hp → Vl → V → Prop} {elt tg iter tg1 iter1 : Expr} {ifs ifs1 : List Expr} {scope : Scope} {own : List (Str × Nat)} {vs1 : List Nat} {pos spos py : Pos} {j : Nat} {y : Str} {i i1 : EvI} {g g1 : EvG} {t t1 : EvT} {e : EvE} (hy : X.N[j]? = some y) (hyl : X.env.scope.names.lookup y = some .local)
    (hsw : swapsWith (.ListComp elt [⟨tg, iter, ifs, 0⟩, ⟨tg1, iter1, ifs1, 0⟩] scope pos) (some (.Name y py)) spos.line X.env = pure true) (ok : blkC X.N X.env.scope scope own = true) (hv1 : ∀ k ∈ vs1, k ∈ own.map (·.2)) (hi : SI X G IR tg iter i)
    (hg : ∀ s H C cl fp, SGi (X.blk s H scope (compEnvC scope cl C X.env) fp) G IR (own.map (·.2)) tg g) (ht : ∀ s H C cl fp, STs (X.blk s H scope (compEnvC scope cl C X.env) fp) G ifs t)
    (hi1 : ∀ s H C cl fp, SIF (X.blk s H scope (compEnvC scope cl C X.env) fp) G IR1 tg1 iter1 i1)
    (hg1 : ∀ s H C cl fp, SGi (X.blk s H scope (compEnvC scope cl C X.env) fp) G IR1 vs1 tg1 g1) (ht1 : ∀ s H C cl fp, STs (X.blk s H scope (compEnvC scope cl C X.env) fp) G ifs1 t1)
    (he : ∀ s H C cl fp, SE (X.blk s H scope (compEnvC scope cl C X.env) fp) G elt e) (hs : plainIt iter = true) (hs1 : plainIt iter1 = true) :
    SS X G (.Assign [.Name y py] (.ListComp elt [⟨tg, iter, ifs, 0⟩, ⟨tg1, iter1, ifs1, 0⟩] scope pos) spos) (sAsg (gNm (sOf j)) (eQ qList (qComp ((own.map (·.2)).map sOf) i g t (cFor (vs1.map sOf) i1 g1 t1 (cEltF e))))) := fun W tk => by
  have bo := blkOk_by ok
  have hv : ∀ k ∈ own.map (·.2), k < X.N.length := fun k m => by
    obtain ⟨p, hp, rfl⟩ := List.mem_map.mp m
    exact (List.getElem?_eq_some_iff.mp (bo.ix p hp)).1
  have hj : j < X.N.length := (List.getElem?_eq_some_iff.mp hy).1
  have hg' : ∀ (s : Shared) (H : Hp) (C : Addr) (cl : List (Str × Addr)) (fp : List Addr), PG (X.blk s H scope (compEnvC scope cl C X.env) fp) tg (rg G IR X.N.length (own.map (·.2)) g) := hg
  have hg1' : ∀ (s : Shared) (H : Hp) (C : Addr) (cl : List (Str × Addr)) (fp : List Addr), PG (X.blk s H scope (compEnvC scope cl C X.env) fp) tg1 (rg G IR1 X.N.length vs1 g1) := hg1
  refine psWeak (ps_unl (ps_setLc2 (wi1 := rif G IR1 X.N.length W0 i1) (tt := rd G X.N.length RBl W0 t) (tt1 := rd G X.N.length RBl W0 t1) (te := rd G X.N.length (RVl G) W0 e) O.calm O.nd hy hyl hsw (hi W tk) bo hv1 hg' (fun s H C cl fp => ht s H C cl fp W0 takes0) (fun s H C cl fp => hi1 s H C cl fp W0 takes0) hg1' (fun s H C cl fp => ht1 s H C cl fp W0 takes0) (fun s H C cl fp => he s H C cl fp W0 takes0) (folded_of hs) (fun _ => folded_of hs1))) fun D σ H q => ?_
  refine lc2_reads O hv hv1 (Q := fun v H1 => D.nx (σ.set j (some v)) H1) (rs_newL (IRQ := fun v σ H1 => D.nx (σ.set j (some v)) H1) q fun φ η r v H1 x S E R p => ?_)
  exact p φ H1 _ Evo.refl S (E.set hj O.few R)
end
end FP
end
section
namespace FP
open PySem PySem.Spec PyProof.Rows L2 PySem.SeqAt

section
variable {X : Cx}
theorem ps_setDg {o0 : Addr → HO} {St : Sto} (h0 : ∀ (H : Hp) (h : Heap), sysModules < h.objs.size → ObjOk X.prog X.w H (h.push { cls := .type "dict", data := .dict #[] }) h.objs.size (o0 h.objs.size)) (hSt : StoOk X St)
    {i : Nat} {y : Str} {py : Pos} {kx vx tg iter : Expr} {ifs : List Expr} {scope : Scope} {own : List (Str × Nat)} {pos spos : Pos} {wi : TI} {g : TG} {tt : TT} {tk tv : TE} (hc : X.calm = true) (hN : X.N.Nodup) (hy : X.N[i]? = some y) (hyl : X.env.scope.names.lookup y = some .local)
    (hsw : swapsWith (.DictComp kx vx [⟨tg, iter, ifs, 0⟩] scope pos) (some (.Name y py)) spos.line X.env = pure true) (hi : PI X tg iter wi) (ok : BlkOk X.N X.env.scope scope own)
    (hg : ∀ (s : Shared) (H : Hp) (C : Addr) (cl : List (Str × Addr)) (fp : List Addr), PG (X.blk s H scope (compEnvC scope cl C X.env) fp) tg g) (ht : ∀ (s : Shared) (H : Hp) (C : Addr) (cl : List (Str × Addr)) (fp : List Addr), PTs (X.blk s H scope (compEnvC scope cl C X.env) fp) ifs tt)
    (hk : ∀ (s : Shared) (H : Hp) (C : Addr) (cl : List (Str × Addr)) (fp : List Addr), PE (X.blk s H scope (compEnvC scope cl C X.env) fp) kx tk)
    (he : ∀ (s : Shared) (H : Hp) (C : Addr) (cl : List (Str × Addr)) (fp : List Addr), PE (X.blk s H scope (compEnvC scope cl C X.env) fp) vx tv) (hs : ∀ x, foldedSetIterable iter X.env x = pure x) :
    PS X (.Assign [.Name y py] (.DictComp kx vx [⟨tg, iter, ifs, 0⟩] scope pos) spos) (tAsg (tDG o0 St wi g tt tk tv (own.map (·.2))) (gName i)) := by
  refine ⟨fun pins s σ H D I h => ?_⟩
  rw [exec_Assign_Name_used _ _ _ _ hsw]
  refine wpAny_bind (wpAny_standAt (wpAny_bind ?_))
  show wpAny _ X.A (do let _ ← comprehension (.DictComp kx vx [⟨tg, iter, ifs, 0⟩] scope pos) scope X.env (firstIterPos [⟨tg, iter, ifs, 0⟩] pos) newDict false (eval iter X.env) (some (assign (.Name y py) X.env))) _ _ s
  have h : tDG o0 St wi g tt tk tv (own.map (·.2)) σ H (fun x H1 => gName i x σ H1 D.nx) := h
  refine wpAny_bind (thn (dg_core h0 hSt (Qf := fun _ s' => SP X pins D .next s') hc hN I hi ok hg ht hk he hs h fun L C s' m H' I' q hn f => ?_) fun _ s' hq => wpAny_pure (wpAny_pure hq))
  show wpAny _ _ (assign (.Name y py) X.env (.ref L)) _ _ _
  refine wpAny_assign_Name (store_ok2 (v := V.ref L) I' hN hy (.inl hyl) rfl (fun s2 I2 ⟨a, sb, ha⟩ => ?_) (.inr hyl))
  obtain ⟨f0, f1, f2, f3, f4, f5⟩ := f
  have haC : C ≠ a := by
    rcases ha with z | z
    · rw [z]; exact f1
    · exact fun e => f4 y a z e.symm
  exact ⟨m, hn.sameBut sb haC, fun h3 sb3 => ⟨_, H', I2.turned (t' := s2.toks) (fun b o hb e => (sb3.2 b hb).trans e) f0 f1 f3 f4 f5, q⟩⟩
variable {G : Gd}
theorem rs_asgE {n : Nat} {W : WX} {f : EvE} {g : EvG} {D : Ends} {σ : L2.St} {H : Hp} {IRQ : V → L2.St → Hp → Prop} (h : rs G n W (sAsg g f) D σ H)
    (hq : ∀ φ η r v H1 (x : Vl), Sim G φ η H1 → EnvR G n φ H1 r σ → RV G.K φ H1 x v → PostS G n W φ H1 ((g x r η).toN fun r h => .ok (.nx r) h) D → IRQ v σ H1) : rd G n (RVl G) W f σ H fun v H1 => IRQ v σ H1 := by
  refine (rs_toS (R := RVl G) (k := fun v r h => (g v r h).toN fun r h => .ok (.nx r) h) h).imp ?_
  rintro v H1 ⟨φ1, η1, r1, x, S1, E1, R1, p1⟩
  exact hq φ1 η1 r1 v H1 x S1 E1 R1 p1
theorem s_setDc (O : XOk X G) {IR : List Addr → Hp → Vl → V → Prop} {kx vx tg iter : Expr} {ifs : List Expr} {scope : Scope} {own : List (Str × Nat)} {pos spos py : Pos} {j : Nat} {y : Str} {i : EvI} {g : EvG} {t : EvT} {k e : EvE} (hy : X.N[j]? = some y) (hyl : X.env.scope.names.lookup y = some .local)
    (hsw : swapsWith (.DictComp kx vx [⟨tg, iter, ifs, 0⟩] scope pos) (some (.Name y py)) spos.line X.env = pure true) (ok : blkC X.N X.env.scope scope own = true) (hi : SI X G IR tg iter i)
    (hg : ∀ s H C cl fp, SGi (X.blk s H scope (compEnvC scope cl C X.env) fp) G IR (own.map (·.2)) tg g) (ht : ∀ s H C cl fp, STs (X.blk s H scope (compEnvC scope cl C X.env) fp) G ifs t)
    (hk : ∀ s H C cl fp, SE (X.blk s H scope (compEnvC scope cl C X.env) fp) G kx k) (he : ∀ s H C cl fp, SE (X.blk s H scope (compEnvC scope cl C X.env) fp) G vx e) (hs : plainIt iter = true) :
    SS X G (.Assign [.Name y py] (.DictComp kx vx [⟨tg, iter, ifs, 0⟩] scope pos) spos) (sAsg (gNm (sOf j)) (eDComp ((own.map (·.2)).map sOf) i g t (dElt k e))) := fun W tk => by
  have bo := blkOk_by ok
  have hv : ∀ k ∈ own.map (·.2), k < X.N.length := fun k m => by
    obtain ⟨p, hp, rfl⟩ := List.mem_map.mp m
    exact (List.getElem?_eq_some_iff.mp (bo.ix p hp)).1
  have hj : j < X.N.length := (List.getElem?_eq_some_iff.mp hy).1
  have hg' : ∀ (s : Shared) (H : Hp) (C : Addr) (cl : List (Str × Addr)) (fp : List Addr), PG (X.blk s H scope (compEnvC scope cl C X.env) fp) tg (rg G IR X.N.length (own.map (·.2)) g) := hg
  have h0 : ∀ (H : Hp) (h : Heap), sysModules < h.objs.size → ObjOk X.prog X.w H (h.push { cls := .type "dict", data := .dict #[] }) h.objs.size (.ext (DN G h.objs.size [])) := fun H h _ =>
    DN.okH (G := G) (xs := []) ⟨_, #[], 0, Heap.get?_push_size _ rfl, ⟨rfl, rfl, rfl⟩, rfl, rfl⟩
  refine psWeak (ps_unl (ps_setDg (o0 := fun D => .ext (DN G D [])) (tt := rd G X.N.length RBl W0 t) (tk := rd G X.N.length (RVl G) W0 k) (tv := rd G X.N.length (RVl G) W0 e) h0 (stoN O) O.calm O.nd hy hyl hsw (hi W tk) bo hg' (fun s H C cl fp => ht s H C cl fp W0 takes0) (fun s H C cl fp => hk s H C cl fp W0 takes0) (fun s H C cl fp => he s H C cl fp W0 takes0) (folded_of hs))) fun D σ H q => ?_
  refine dc_reads O hv (Q := fun v H1 => D.nx (σ.set j (some v)) H1) (rs_asgE (IRQ := fun v σ H1 => D.nx (σ.set j (some v)) H1) q fun φ η r v H1 x S E R p => ?_)
  exact p φ H1 _ Evo.refl S (E.set hj O.few R)
/-- an assignment, any swap being ruled out -/
theorem s_asgW (O : XOk X G) {tg e : Expr} {g : EvG} {f : EvE} {pos : Pos} {L : List Nat} (hg : ∀ W0, Takes X W0 → SG X G L tg g) (he : SE X G e f) (hn : ∀ v p, tg ≠ .Starred v p) (hsw : swapsWithSole [tg] e pos.line X.env = pure false) (hw : swappedStores [tg] e X.env = pure none) : SS X G (.Assign [tg] e pos) (sAsg g f) := fun W tk => by
  refine psWeak (ps_asg (he W tk) (hg W tk) hsw hw (by rw [starEach_assign hn]; rfl)) fun D σ H q => ?_
  refine (rs_toS (R := RVl G) (k := fun v r h => (g v r h).toN fun r h => .ok (.nx r) h) q).imp ?_
  rintro v H1 ⟨φ1, η1, r1, x, S1, E1, R1, p1⟩
  refine ⟨φ1, η1, r1, x, S1, E1, R1, ?_⟩
  cases hx : g x r1 η1 with
  | ok r' η' => rw [hx] at p1; exact fun φ' H' σ' e S' E' _ => p1 φ' H' σ' e S' E'
  | ex _ _ _ => rw [hx] at p1; exact p1
  | bad _ => rw [hx] at p1; exact p1
end
end FP
end
section
namespace FP
open PySem PySem.Spec PyProof.Rows L2 PySem.SeqAt

def oB {α : Type} (b : Bool) (k : Option α) : Option α := match b with
  | true => k
  | false => none
theorem oB_some {α : Type} {b : Bool} {k : Option α} {x : α} (h : oB b k = some x) : b = true ∧ k = some x := by
  cases b with
  | true => exact ⟨rfl, h⟩
  | false => cases h
def oM {α β : Type} (o : Option α) (k : α → Option β) : Option β := match o with
  | some a => k a
  | none => none
theorem oM_some {α β : Type} {o : Option α} {k : α → Option β} {x : β} (h : oM o k = some x) : ∃ a, o = some a ∧ k a = some x := by
  cases o with
  | some a => exact ⟨a, rfl, h⟩
  | none => cases h
def isN (x : Str) (l : List Nat) : Bool := FP.seq x.cps.toList l
theorem strOf_list (x : Str) : strOf x.cps.toList = x := by cases x; simp [strOf]
theorem isN_eq {x : Str} {l : List Nat} (h : isN x l = true) : x = strOf l := by
  unfold isN at h
  rw [seq_eq, decide_eq_true_iff] at h
  rw [← h, strOf_list]
def isS (x y : Str) : Bool := FP.seq x.cps.toList y.cps.toList
theorem isS_iff {x y : Str} : isS x y = true ↔ x = y := by
  unfold isS
  rw [seq_eq, decide_eq_true_iff]
  constructor
  · intro h
    rw [← strOf_list x, h, strOf_list]
  · rintro rfl; rfl
theorem isS_beq (x y : Str) : isS x y = (x == y) := by
  rw [Bool.eq_iff_iff, isS_iff]; simp
def lkS {α : Type} (x : Str) : List (Str × α) → Option α
  | [] => none
  | p :: r => match isS x p.1 with
    | true => some p.2
    | false => lkS x r
theorem lkS_eq {α : Type} (x : Str) : ∀ l : List (Str × α), lkS x l = l.lookup x
  | [] => rfl
  | p :: r => by
    show (match isS x p.1 with | true => some p.2 | false => lkS x r) = _
    rw [List.lookup_cons, ← isS_beq, lkS_eq x r]
    cases isS x p.1 <;> rfl
def ixS (x : Str) : List Str → Nat → Option Nat
  | [], _ => none
  | y :: ys, n => match isS x y with
    | true => some n
    | false => ixS x ys (Nat.succ n)
theorem ixS_some {x : Str} : ∀ {l : List Str} {n i : Nat}, ixS x l n = some i → ∃ j, i = n + j ∧ l[j]? = some x
  | [], _, _, h => nomatch h
  | y :: ys, n, i, h => by
    have h' : (match isS x y with | true => some n | false => ixS x ys (Nat.succ n)) = some i := h
    cases hs : isS x y with
    | true =>
      rw [hs] at h'
      cases h'
      exact ⟨0, rfl, by rw [isS_iff.mp hs]; rfl⟩
    | false =>
      rw [hs] at h'
      obtain ⟨j, e, h2⟩ := ixS_some h'
      exact ⟨j + 1, by omega, h2⟩
theorem ixS_at {x : Str} {l : List Str} {i : Nat} (h : ixS x l 0 = some i) : l[i]? = some x := by
  obtain ⟨j, e, h2⟩ := ixS_some h
  rw [e, Nat.zero_add]; exact h2
def noStB : List Expr → Bool
  | [] => true
  | e :: es => match e with
    | .Starred _ _ => false
    | _ => noStB es
def unSt : Expr → Bool
  | .Starred _ _ => false
  | _ => true
theorem unSt_ok {e : Expr} (h : unSt e = true) : ∀ v p, e ≠ .Starred v p := by rintro v p rfl; cases h
theorem noStB_cons {e : Expr} {es : List Expr} (h : noStB (e :: es) = true) : unSt e = true ∧ noStB es = true := by
  cases e <;> first | exact ⟨rfl, h⟩ | cases h
theorem noStB_ok : ∀ {es : List Expr}, noStB es = true → NoStar es
  | [], _ => fun e m => nomatch m
  | e :: es, h => fun e' m => by
    obtain ⟨h1, h2⟩ := noStB_cons h
    rcases List.mem_cons.mp m with rfl | m
    · exact unSt_ok h1
    · exact noStB_ok h2 e' m
def natEq (a b : Nat) : Bool := Nat.beq a b
theorem natEq_ok {a b : Nat} (h : natEq a b = true) : a = b := Nat.eq_of_beq_eq_true h

abbrev TAc1 := Tab → FnF
structure Cc where
  N : List Str
  sc : Scope
  fnb : Str → Bool
  tab : Tab
  /-- defs: how many arguments, where in the table -/
  fns : List (Str × Nat × TAc1)
  /-- classes: their number, how many arguments (the instance among them), where __init__ stands -/
  mks : List (Str × Nat × Nat × TAc1)
  /-- methods: how many arguments, class by class where they stand -/
  mts : List (Str × Nat × List (Nat × TAc1))
  ats : List (Str × Nat)
  cons : List (Str × Vl)
  xcs : List (Str × Nat)
  fo : Nat → Nat → Bool
/-- built-in names -/
def nAbs : List Nat := [97, 98, 115]
def nInt : List Nat := [105, 110, 116]
def nLen : List Nat := [108, 101, 110]
def nMax : List Nat := [109, 97, 120]
def nMin : List Nat := [109, 105, 110]
def nSum : List Nat := [115, 117, 109]
def nAny : List Nat := [97, 110, 121]
def nAll : List Nat := [97, 108, 108]
def nTuple : List Nat := [116, 117, 112, 108, 101]
def nList : List Nat := [108, 105, 115, 116]
def nSorted : List Nat := [115, 111, 114, 116, 101, 100]
def nSet : List Nat := [115, 101, 116]
def nIsi : List Nat := [105, 115, 105, 110, 115, 116, 97, 110, 99, 101]
def nZip : List Nat := [122, 105, 112]
def nEnum : List Nat := [101, 110, 117, 109, 101, 114, 97, 116, 101]
def nRange : List Nat := [114, 97, 110, 103, 101]
def nBool : List Nat := [98, 111, 111, 108]
def nStr : List Nat := [115, 116, 114]
def nDict : List Nat := [100, 105, 99, 116]
def bltNs : List (List Nat) := [nAbs, nInt, nLen, nMax, nMin, nSum, nAny, nAll, nTuple, nList, nSorted, nSet, nIsi, nZip, nEnum, nRange, nBool, nStr, nDict]
structure Bt (l : List Nat) (u : Value) : Prop where
  v : bootBuiltins (strOf l) = some u
  n : strOf l ≠ "__name__"
  d : (strOf l == ("__debug__" : Str)) = false
  b : l ∈ bltNs
theorem bt_abs : Bt nAbs (.builtin "abs") := ⟨by decide +kernel, by decide +kernel, by decide +kernel, by decide +kernel⟩
theorem bt_int : Bt nInt (.type "int") := ⟨by decide +kernel, by decide +kernel, by decide +kernel, by decide +kernel⟩
theorem bt_len : Bt nLen (.builtin "len") := ⟨by decide +kernel, by decide +kernel, by decide +kernel, by decide +kernel⟩
theorem bt_max : Bt nMax (.builtin "max") := ⟨by decide +kernel, by decide +kernel, by decide +kernel, by decide +kernel⟩
theorem bt_min : Bt nMin (.builtin "min") := ⟨by decide +kernel, by decide +kernel, by decide +kernel, by decide +kernel⟩
theorem bt_sum : Bt nSum (.builtin "sum") := ⟨by decide +kernel, by decide +kernel, by decide +kernel, by decide +kernel⟩
theorem bt_any : Bt nAny (.builtin "any") := ⟨by decide +kernel, by decide +kernel, by decide +kernel, by decide +kernel⟩
theorem bt_all : Bt nAll (.builtin "all") := ⟨by decide +kernel, by decide +kernel, by decide +kernel, by decide +kernel⟩
theorem bt_tuple : Bt nTuple (.type "tuple") := ⟨by decide +kernel, by decide +kernel, by decide +kernel, by decide +kernel⟩
theorem bt_list : Bt nList (.type "list") := ⟨by decide +kernel, by decide +kernel, by decide +kernel, by decide +kernel⟩
theorem bt_sorted : Bt nSorted (.builtin "sorted") := ⟨by decide +kernel, by decide +kernel, by decide +kernel, by decide +kernel⟩
theorem bt_set : Bt nSet (.type "set") := ⟨by decide +kernel, by decide +kernel, by decide +kernel, by decide +kernel⟩
theorem bt_isi : Bt nIsi (.builtin "isinstance") := ⟨by decide +kernel, by decide +kernel, by decide +kernel, by decide +kernel⟩
theorem bt_zip : Bt nZip (.type "zip") := ⟨by decide +kernel, by decide +kernel, by decide +kernel, by decide +kernel⟩
theorem bt_enum : Bt nEnum (.type "enumerate") := ⟨by decide +kernel, by decide +kernel, by decide +kernel, by decide +kernel⟩
theorem bt_range : Bt nRange (.type "range") := ⟨by decide +kernel, by decide +kernel, by decide +kernel, by decide +kernel⟩
theorem bt_bool : Bt nBool (.type "bool") := ⟨by decide +kernel, by decide +kernel, by decide +kernel, by decide +kernel⟩
theorem bt_str : Bt nStr (.type "str") := ⟨by decide +kernel, by decide +kernel, by decide +kernel, by decide +kernel⟩
theorem bt_dict : Bt nDict (.type "dict") := ⟨by decide +kernel, by decide +kernel, by decide +kernel, by decide +kernel⟩

/-- what the program's top gives; k: the room that the table's defs want -/
structure POk (P : Program) (w : World) (K : PySem.W.Frag) (mg : Str → Option Value) (base : Heap) (G : Gd) (k : Nat) (c : Cc) : Prop where
  fn : ∀ x n a, c.fns.lookup x = some (n, a) → (x == ("__debug__" : Str)) = false ∧ ∃ f fd ps, mg x = some (.ref f) ∧ PySem.W.keepIn K (.ref f) = true ∧ Binds K fd ps [] ∧ ps.length = n ∧ FnOk P w K mg base (L2.CX P w) k f fd ps (spF G n (a c.tab))
  mkc : ∀ x cl n a, c.mks.lookup x = some (cl, n, a) → (x == ("__debug__" : Str)) = false ∧ ∃ C f fd ps, mg x = some (.ref C) ∧ G.clss[cl]? = some C ∧ Mk K C f ∧ Binds K fd ps [] ∧ ps.length = n ∧ FnOk P w K mg base (L2.CX P w) k f fd ps (spF G n (a c.tab))
  mt : ∀ m n l, c.mts.lookup m = some (n, l) → ∀ cl a C, (cl, a) ∈ l → G.clss[cl]? = some C → ∃ f fd ps, Meth K C m f ∧ Binds K fd ps [] ∧ ps.length = n ∧ FnOk P w K mg base (L2.CX P w) k f fd ps (spF G n (a c.tab))
  att : ∀ nm i, c.ats.lookup nm = some i → G.attrs[i]? = some nm
  cn : ∀ x v, c.cons.lookup x = some v → (x == ("__debug__" : Str)) = false ∧ ∃ u t, mg x = some t ∧ RelV u t ∧ ∀ φ H, RV G.K φ H v u
  xc : ∀ x i, c.xcs.lookup x = some i → (x == ("__debug__" : Str)) = false ∧ ∃ C bmB B newId initId, ExcBaseFacts B newId initId bmB ∧ PySem.W.excIn K C bmB newId = true ∧ mg x = some (.ref C) ∧ PySem.W.keepIn K (.ref C) = true ∧ G.excs[i]? = some C ∧
    PySem.W.subIn K (.ref C) (.type "BaseException") = some true ∧ PySem.W.typeIn K (.ref C) = some (.type "type") ∧ Tells G i (.ref C)
  fo : ∀ cl C f nm, c.fo cl f = true → G.clss[cl]? = some C → G.attrs[f]? = some nm → NoAttr G.K C nm
  bn : ∀ l, l ∈ bltNs → mg (strOf l) = none
/-- .. at a place of it -/
structure COk (X : Cx) (G : Gd) (k : Nat) (c : Cc) : Prop where
  O : XOk X G
  room : Room (k + 1) X.A
  N : X.N = c.N
  sc : X.env.scope = c.sc
  kd : c.sc.kind = .function
  fnb : ∀ x, X.fn x = c.fnb x
  P : POk X.prog X.w X.K X.mg X.base G k c
/-- what changes in a comprehension: its names' scope -/
def Cc.blk (c : Cc) (scope : Scope) : Cc := { c with
  sc := { scope with names := scope.names.map fun (n, k) => if (k == .free && c.sc.kind == .function && c.sc.names.lookup n == some .cell) then (n, .cell) else (n, k) }
  fnb := fun x => scope.names.lookup x == some .cell }
section
variable {X : Cx} {G : Gd} {k : Nat} {c : Cc}
theorem COk.blk (h : COk X G k c) {s : Shared} {H : Hp} {scope : Scope} {cl : List (Str × Addr)} {C : Addr} {fp : List Addr} (hk : scope.kind = .function) : COk (X.blk s H scope (compEnvC scope cl C X.env) fp) G k (c.blk scope) where
  O := h.O.blk
  room := h.room
  N := h.N
  sc := by
    show relabel scope X.env = _
    unfold relabel Cc.blk
    simp only [← h.sc]
    rfl
  kd := hk
  fnb := fun x => rfl
  P := ⟨h.P.fn, h.P.mkc, h.P.mt, h.P.att, h.P.cn, h.P.xc, h.P.fo, h.P.bn⟩
def glb (c : Cc) (x : Str) : Bool := match lkS x c.sc.names with
  | some .globalImplicit => true
  | _ => false
theorem glb_ok (h : COk X G k c) {x : Str} (hg : glb c x = true) : Gl X x := by
  unfold glb at hg
  rw [lkS_eq] at hg
  show X.env.scope.names.lookup x = some .globalImplicit
  rw [h.sc]
  split at hg
  · assumption
  · cases hg
theorem bn_ok (h : COk X G k c) {l : List Nat} {u : Value} (B : Bt l u) {x : Str} (hx : isN x l = true) (hg : glb c x = true) : Bn X x u := by
  have e := isN_eq hx
  subst e
  exact ⟨glb_ok h hg, h.P.bn l B.b, B.v, B.n, B.d⟩
def visB (c : Cc) (x : Str) : Bool := match lkS x c.sc.names with
  | some .local => true
  | some .cell => true
  | some .free => true
  | _ => false
theorem visB_ok (h : COk X G k c) {x : Str} (hv : visB c x = true) : Vis X.env.scope x := by
  unfold visB at hv
  rw [lkS_eq] at hv
  unfold Vis
  rw [h.sc]
  split at hv
  · exact .inl (by assumption)
  · exact .inr (.inl (by assumption))
  · exact .inr (.inr (by assumption))
  · cases hv
/-- no name of the compiler's own -/
def okN (x : Str) : Bool := !(isN x [95, 95, 100, 101, 98, 117, 103, 95, 95]) && !(isN x [95, 95, 99, 108, 97, 115, 115, 100, 105, 99, 116, 95, 95])
theorem okN_ok {x : Str} (h : okN x = true) : (x == ("__debug__" : Str)) = false ∧ (x == ("__classdict__" : Str)) = false := by
  unfold okN at h
  rw [Bool.and_eq_true, Bool.not_eq_true', Bool.not_eq_true'] at h
  have e1 : (("__debug__" : Str)) = strOf [95, 95, 100, 101, 98, 117, 103, 95, 95] := by decide +kernel
  have e2 : (("__classdict__" : Str)) = strOf [95, 95, 99, 108, 97, 115, 115, 100, 105, 99, 116, 95, 95] := by decide +kernel
  constructor
  · rw [e1]; refine beq_eq_false_iff_ne.mpr fun z => ?_
    subst z
    have := h.1
    revert this
    decide
  · rw [e2]; refine beq_eq_false_iff_ne.mpr fun z => ?_
    subst z
    have := h.2
    revert this
    decide
end
end FP
end
section
namespace FP
open PySem PySem.Spec PyProof.Rows L2 PySem.SeqAt

structure Den where
  e : Cc → Expr → Option EvE
  t : Cc → Expr → Option EvT
  w : Cc → BoolOp → List Expr → Option EvT
  l : Cc → Expr → Option EvQ
  a : Cc → List Expr → Option EvQ
  as : Cc → List Expr → Option EvQ
  ts : Cc → List Expr → Option EvT
  g : Cc → List Nat → Expr → Option EvG
  gs : Cc → List Nat → List Expr → Option (List EvG)
def irB (G : Gd) (b : Bool) : List Addr → Hp → Vl → V → Prop := match b with
  | true => RP G
  | false => RVl G
structure DenOk (D : Den) : Prop where
  e : ∀ {X G k c x f}, COk X G k c → D.e c x = some f → SE X G x f
  t : ∀ {X G k c x f}, COk X G k c → D.t c x = some f → ST X G x f
  w : ∀ {X G k c op xs f} {pos : Pos}, COk X G k c → D.w c op xs = some f → SW X G (.BoolOp op xs pos) f
  l : ∀ {X G k c x f}, COk X G k c → D.l c x = some f → SL X G x f
  a : ∀ {X G k c x f}, COk X G k c → D.a c x = some f → SA X G x f
  as : ∀ {X G k c x f}, COk X G k c → D.as c x = some f → SAS X G x f
  ts : ∀ {X G k c x f}, COk X G k c → D.ts c x = some f → STs X G x f
  g : ∀ {X G k c L x f W0}, COk X G k c → Takes X W0 → D.g c L x = some f → SG X G L x f
  gs : ∀ {X G k c L x f W0}, COk X G k c → Takes X W0 → D.gs c L x = some f → SGs X G L x f

def isL : Expr → Bool
  | .List _ _ => true
  | .ListComp _ _ _ _ => true
  | .Call (.Name f _) [_] [] _ => isN f nList || isN f nSorted
  | _ => false
section
variable (D : Den) (c : Cc)
def dQ (x : Expr) : Option EvQ := match isL x with
  | true => D.l c x
  | false => oM (D.e c x) fun f => some (qOf f)
def dQl (x : Expr) : Option EvQ := match isL x with
  | true => D.l c x
  | false => oM (D.e c x) fun f => some (qOfL f)
def dM (x : Expr) : Option EvQ := match isL x with
  | true => D.l c x
  | false => oM (D.e c x) fun f => some (qOfM f)

def opB : Operator → Option P2
  | .Add => some pAdd
  | .Sub => some pSub
  | .Mult => some pMul
  | .FloorDiv => some pFdiv
  | .Mod => some pMod
  | .Pow => some pPow
  | _ => none
def cmpB : CmpOp → Option P2
  | .Eq => some pEq
  | .NotEq => some pNe
  | .Lt => some pLt
  | .LtE => some pLe
  | .Gt => some pGt
  | .GtE => some pGe
  | .In => some pIn
  | .NotIn => some pNotIn
  | _ => none

def b1 (f : Str) : Option P1 := match isN f nLen with
  | true => some pLen
  | false => match isN f nAbs with
    | true => some pAbs
    | false => match isN f nInt with
      | true => some pInt
      | false => none
def b2 (f : Str) : Option P2 := match isN f nMax with
  | true => some pMax2
  | false => match isN f nMin with
    | true => some pMin2
    | false => none
def bl (f : Str) : Option PQ := match isN f nAll with
  | true => some qAll
  | false => match isN f nAny with
    | true => some qAny
    | false => match isN f nSum with
      | true => some qSum
      | false => match isN f nMax with
        | true => some qMax
        | false => match isN f nMin with
          | true => some qMin
          | false => none
def tyIx (x : Str) : Option Nat := oB (glb c x) (match isN x nInt with
  | true => some 2
  | false => match isN x nTuple with
    | true => some 4
    | false => match isN x nList with
      | true => some 5
      | false => match isN x nStr with
        | true => some 3
        | false => match isN x nBool with
          | true => some 1
          | false => match isN x nDict with
            | true => some 6
            | false => none)
def tyIxs : List Expr → Option (List Nat)
  | [] => some []
  | x :: xs => match x with
    | .Name nm _ => oM (tyIx c nm) fun k => oM (tyIxs xs) fun ks => some (k :: ks)
    | _ => none
def dIsi (a b : Expr) : Option EvE := match b with
  | .Name nm _ => oM (tyIx c nm) fun k => oM (D.e c a) fun f => some (e1 (pIsinst [k]) f)
  | .Tuple es _ _ => oB (Nat.ble es.length 10000) (oM (tyIxs c es) fun ks => oM (D.e c a) fun f => some (e1 (pIsinst ks) f))
  | _ => none
def dBlt (f : Str) (args : List Expr) : Option EvE := match args with
  | [a] => oB (unSt a) (match b1 f with
    | some p => oM (D.e c a) fun fa => some (e1 p fa)
    | none => match isN f nTuple with
      | true => oM (dQ D c a) fun s => some (eQ qTuple s)
      | false => match bl f with
        | some p => oM (dQl D c a) fun s => some (eQ p s)
        | none => none)
  | [a, b] => oB (unSt a) (oB (unSt b) (match isN f nIsi with
    | true => dIsi D c a b
    | false => oM (b2 f) fun p => oM (D.e c a) fun fa => oM (D.e c b) fun fb => some (e2 p fa fb)))
  | _ => none
/-- a call by name -/
def dCallN (f : Str) (args : List Expr) : Option EvE := oB (glb c f) (match lkS f c.fns with
  | some p => oB (noStB args) (oB (natEq args.length p.1) (match args with
    | [] => some (eCall (p.2 c.tab) qNil)
    | x :: xs => oM (D.a c (x :: xs)) fun s => some (eCall (p.2 c.tab) s)))
  | none => match lkS f c.mks with
    | some p => match args with
      | [] => none
      | x :: xs => oB (noStB (x :: xs)) (oB (natEq (Nat.succ (x :: xs).length) p.2.1) (oM (D.a c (x :: xs)) fun s => some (eMk p.1 (p.2.2 c.tab) s)))
    | none => dBlt D c f args)
def tabs (t : Tab) : List (Nat × TAc1) → List (Nat × FnF)
  | [] => []
  | p :: r => (p.1, p.2 t) :: tabs t r
/-- a call of a method -/
def dMet (o : Expr) (m : Str) (args : List Expr) : Option EvE := match lkS m c.mts with
  | some p => oB (noStB args) (oB (Nat.blt args.length 30) (oB (natEq (Nat.succ args.length) p.1) (oM (D.e c o) fun fo => match args with
    | [] => some (eMeth (tabs c.tab p.2) fo qNil)
    | x :: xs => oM (D.a c (x :: xs)) fun s => some (eMeth (tabs c.tab p.2) fo s))))
  | none => match args with
    | [] => oB (isN m [112, 111, 112]) (oM (D.e c o) fun fo => some (eL1 pPop fo))
    | [x] => oB (unSt x) (oM (D.e c o) fun fo => match isN m [97, 112, 112, 101, 110, 100] with
      | true => oM (D.e c x) fun fx => some (eL2 pAppend fo fx)
      | false => match isN m [101, 120, 116, 101, 110, 100] with
        | true => oM (dM D c x) fun fx => some (eLQ pExtend fo fx)
        | false => match isN m [105, 110, 100, 101, 120] with
          | true => oM (D.e c x) fun fx => some (eS2 pIdxOf fo fx)
          | false => match isN m [117, 112, 100, 97, 116, 101] with
            | true => oM (D.e c x) fun fx => some (eD2 pUpdate fo fx)
            | false => match isN m [103, 101, 116] with
              | true => oM (D.e c x) fun fx => some (eD2 pGet1 fo fx)
              | false => none)
    | [x, y] => oB (unSt x) (oB (unSt y) (oM (D.e c o) fun fo => oM (D.e c x) fun fx => oM (D.e c y) fun fy => match isN m [105, 110, 115, 101, 114, 116] with
      | true => some (eL3 pInsert fo fx fy)
      | false => match isN m [103, 101, 116] with
        | true => some (eD3 pGet2 fo fx fy)
        | false => none))
    | _ => none
def dO (x : Option Expr) : Option EvE := match x with
  | none => some (eCst .non)
  | some x => D.e c x
/-- o[i] -/
def dSub (o i : Expr) : Option EvE := match i with
  | .Slice lo hi st _ => match st with
    | none => oM (D.e c o) fun fo => oM (dO D c lo) fun fl => oM (dO D c hi) fun fh => some (eSlice fo fl fh)
    | some st => match lo with
      | some _ => none
      | none => match hi with
        | some _ => none
        | none => match st with
          | .UnaryOp .USub (.Constant (.int n) _ _) _ => oB (ibeq n 1) (oM (D.e c o) fun fo => some (e1 pRev fo))
          | _ => none
  | i => oM (D.e c o) fun fo => oM (D.e c i) fun fi => some (e2 pIndex fo fi)

def isTg : Expr → Bool
  | .Tuple _ _ _ => true
  | _ => false
def dIany (it : Expr) : Option (Bool × EvI) := match isL it with
  | true => oM (D.l c it) fun s => some (false, iVals s)
  | false => oM (D.e c it) fun f => some (false, iOf f)
def dI (tg it : Expr) : Option (Bool × EvI) := match it with
  | .Call (.Name f _) args [] _ => match isN f nRange with
    | true => oB (glb c f) (oB (noStB args) (match args with
      | [a] => oM (D.e c a) fun fa => some (false, iRng1 fa)
      | [a, b] => oM (D.e c a) fun fa => oM (D.e c b) fun fb => some (false, iRng2 fa fb)
      | [a, b, d] => oM (D.e c a) fun fa => oM (D.e c b) fun fb => oM (D.e c d) fun fd => some (false, iRng3 fa fb fd)
      | _ => none))
    | false => match isN f nZip with
      | true => oB (glb c f) (oB (noStB args) (oB (isTg tg) (match args with
        | [a, b] => oM (D.e c a) fun fa => oM (D.e c b) fun fb => some (true, iZip fa fb)
        | _ => none)))
      | false => match isN f nEnum with
        | true => oB (glb c f) (oB (noStB args) (oB (isTg tg) (match args with
          | [a] => match isL a with
            | true => oM (D.l c a) fun s => some (true, iEnumQ s)
            | false => oM (D.e c a) fun fa => some (true, iEnum fa)
          | _ => none)))
        | false => dIany D c it
  | .Call (.Attribute o m apos) [] [] cpos => match isN m [105, 116, 101, 109, 115] with
    | true => oB (isTg tg) (oB (plainBase o) (oB (apos.endLine == cpos.line) (oM (D.e c o) fun fo => some (true, iItems fo))))
    | false => dIany D c it
  | _ => dIany D c it
def dGi (L : List Nat) (b : Bool) (tg : Expr) : Option EvG := match b with
  | false => D.g c L tg
  | true => match tg with
    | .Tuple [x, y] _ _ => oB (noStB [x, y]) (oM (D.gs c L [x, y]) fun gs => some (gTup gs))
    | _ => none

def ownOf (N : List Str) : List (Str × NameKind) → List (Str × Nat)
  | [] => []
  | p :: r => match p.2 with
    | .local => match ixS p.1 N 0 with
      | some i => (p.1, i) :: ownOf N r
      | none => ownOf N r
    | .cell => match ixS p.1 N 0 with
      | some i => (p.1, i) :: ownOf N r
      | none => ownOf N r
    | _ => ownOf N r
def slots : List (Str × Nat) → List Nat
  | [] => []
  | p :: r => p.2 :: slots r
theorem slots_eq : ∀ l : List (Str × Nat), slots l = l.map (·.2)
  | [] => rfl
  | p :: r => by show p.2 :: slots r = _; rw [slots_eq r]; rfl
def sets : List Nat → List Set
  | [] => []
  | i :: r => sOf i :: sets r
theorem sets_eq : ∀ l : List Nat, sets l = l.map sOf
  | [] => rfl
  | i :: r => by show sOf i :: sets r = _; rw [sets_eq r]; rfl
/-- the names of a target -/
def tgIx : Nat → Expr → List Nat
  | 0, _ => []
  | n + 1, x => match x with
    | .Name nm _ => match ixS nm c.N 0 with
      | some i => [i]
      | none => []
    | .Tuple es _ _ => es.flatMap (tgIx n)
    | _ => []
def fnKd (s : Scope) : Bool := match s.kind with
  | .function => true
  | _ => false
def dLc (elt : Expr) (gens : List Comprehension) (scope : Scope) : Option EvQ := match gens with
  | [g1] => oB (ibeq g1.is_async 0) (oB (blkC c.N c.sc scope (ownOf c.N scope.names)) (oB (fnKd scope) (oB (plainIt g1.iter) (oM (dI D c g1.target g1.iter) fun fi =>
      oM (dGi D (c.blk scope) (slots (ownOf c.N scope.names)) fi.1 g1.target) fun fg => oM (D.ts (c.blk scope) g1.ifs) fun ft => oM (D.e (c.blk scope) elt) fun fe =>
      some (qComp (sets (slots (ownOf c.N scope.names))) fi.2 fg ft (cElt fe))))))
  | [g1, g2] => oB (ibeq g1.is_async 0) (oB (ibeq g2.is_async 0) (oB (blkC c.N c.sc scope (ownOf c.N scope.names)) (oB (fnKd scope) (oB (plainIt g1.iter) (oB (plainIt g2.iter) (oB ((tgIx c 5 g2.target).all fun k => (slots (ownOf c.N scope.names)).elem k) (oM (dI D c g1.target g1.iter) fun fi =>
      oM (dGi D (c.blk scope) (slots (ownOf c.N scope.names)) fi.1 g1.target) fun fg => oM (D.ts (c.blk scope) g1.ifs) fun ft =>
      oM (D.e (c.blk scope) g2.iter) fun fi2 => oM (D.g (c.blk scope) (tgIx c 5 g2.target) g2.target) fun fg2 => oM (D.ts (c.blk scope) g2.ifs) fun ft2 => oM (D.e (c.blk scope) elt) fun fe =>
      some (qComp (sets (slots (ownOf c.N scope.names))) fi.2 fg ft (cFor (sets (tgIx c 5 g2.target)) (iSeq fi2) fg2 ft2 (cEltF fe)))))))))) 
  | _ => none
def dDc (kx vx : Expr) (gens : List Comprehension) (scope : Scope) : Option EvE := match gens with
  | [g1] => oB (ibeq g1.is_async 0) (oB (blkC c.N c.sc scope (ownOf c.N scope.names)) (oB (fnKd scope) (oB (plainIt g1.iter) (oM (dI D c g1.target g1.iter) fun fi =>
      oM (dGi D (c.blk scope) (slots (ownOf c.N scope.names)) fi.1 g1.target) fun fg => oM (D.ts (c.blk scope) g1.ifs) fun ft => oM (D.e (c.blk scope) kx) fun fk => oM (D.e (c.blk scope) vx) fun fv =>
      some (eDComp (sets (slots (ownOf c.N scope.names))) fi.2 fg ft (dElt fk fv))))))
  | _ => none

def isNone : Expr → Bool
  | .Constant .none _ _ => true
  | _ => false
def dCmp (a : Expr) (op : CmpOp) (b : Expr) : Option EvE := match op with
  | .Is => oB (isNone b) (oM (D.e c a) fun f => some (e1 pIsN f))
  | .IsNot => oB (isNone b) (oM (D.e c a) fun f => some (e1 pNotN f))
  | op => oB (!behindInMarks op b) (oM (cmpB op) fun p => oM (D.e c a) fun fa => oM (D.e c b) fun fb => some (e2 p fa fb))
def dCmps (a : Expr) (ops : List CmpOp) (es : List Expr) : Option EvE := match ops, es with
  | [op], [b] => dCmp D c a op b
  | [op, op2], [b, d] => oB (!lastMarks [op, op2] [b, d]) (oM (cmpB op) fun p => oM (cmpB op2) fun q => oM (D.e c a) fun fa => oM (D.e c b) fun fb => oM (D.e c d) fun fd => some (eChain p q fa fb fd))
  | _, _ => none
def dNm (x : Str) : Option EvE := match ixS x c.N 0 with
  | some i => match visB c x with
    | true => oB (okN x) (some (eVar (gOf i)))
    | false => oB (glb c x) (oM (lkS x c.cons) fun v => some (eCst v))
  | none => oB (glb c x) (oM (lkS x c.cons) fun v => some (eCst v))
def dE1 (x : Expr) : Option EvE := match x with
  | .Name nm _ => dNm c nm
  | .Constant v _ _ => match v with
    | .int i => some (eCst (.int i))
    | .bool b => some (eCst (.bl b))
    | .none => some (eCst .non)
    | .str s => some (eCst (.str s.cps.toList))
    | _ => none
  | .BinOp a op b _ => oM (opB op) fun p => oM (D.e c a) fun fa => oM (D.e c b) fun fb => some (e2 p fa fb)
  | .UnaryOp op a _ => match op with
    | .USub => oM (D.e c a) fun f => some (e1 pNeg f)
    | .Not => oM (D.e c a) fun f => some (e1 pNot f)
    | _ => none
  | .BoolOp op xs pos => match xs with
    | [a] => D.e c a
    | a :: b :: r => oM (D.e c a) fun fa => oM (D.e c (.BoolOp op (b :: r) pos)) fun fb => match op with
      | .And => some (eAnd fa fb)
      | .Or => some (eOr fa fb)
    | [] => none
  | .IfExp t a b _ => oM (D.t c t) fun ft => oM (D.e c a) fun fa => oM (D.e c b) fun fb => some (eIte ft fa fb)
  | .Compare a ops es _ => dCmps D c a ops es
  | .Attribute o nm _ => oB (plainBase o) (oM (lkS nm c.ats) fun k => oM (D.e c o) fun f => some (eAttr f k))
  | .Subscript o i _ => dSub D c o i
  | .Tuple es _ _ => match noStB es with
    | true => oB (Nat.ble es.length 10000) (oM (D.a c es) fun s => some (eQ qTuple s))
    | false => oM (D.as c es) fun s => some (eQ qTupS s)
  | .Dict ks vs _ => match ks, vs with
    | [], [] => some eDic0
    | _, _ => none
  | .DictComp kx vx gens scope _ => dDc D c kx vx gens scope
  | .List es p => oM (D.l c (.List es p)) fun s => some (eQ qList s)
  | .ListComp e gens s p => oM (D.l c (.ListComp e gens s p)) fun s => some (eQ qList s)
  | .Call fn args kws pos => match kws with
    | [] => match fn with
      | .Name f np => match isL (.Call (.Name f np) args [] pos) with
        | true => oM (D.l c (.Call (.Name f np) args [] pos)) fun s => some (eQ qList s)
        | false => dCallN D c f args
      | .Attribute o m apos => oB (plainBase o) (oB (apos.endLine == pos.line) (dMet D c o m args))
      | _ => none
    | _ => none
  | _ => none
def plainT : Expr → Bool
  | .Name _ _ => true
  | .Call _ _ _ _ => true
  | .Attribute _ _ _ => true
  | .Subscript _ _ _ => true
  | .Constant _ _ _ => true
  | .BinOp _ _ _ _ => true
  | _ => false
def dT1 (x : Expr) : Option EvT := match x with
  | .UnaryOp .Not a _ => oM (D.t c a) fun f => some (tNot f)
  | .BoolOp op xs _ => D.w c op xs
  | .Compare a ops es _ => oM (dCmps D c a ops es) fun f => some (tBl f)
  | x => oB (plainT x) (oM (D.e c x) fun f => some (tOfE f))
def dW1 (op : BoolOp) (xs : List Expr) : Option EvT := match xs with
  | [a] => D.t c a
  | a :: b :: r => oM (D.t c a) fun fa => oM (D.w c op (b :: r)) fun fb => match op with
    | .And => some (tAnd fa fb)
    | .Or => some (tOr fa fb)
  | [] => none
def dSrt (a : Expr) : Option EvQ := match a with
  | .Call (.Name f2 _) [b] [] _ => match isN f2 nSet with
    | true => oB (glb c f2) (oB (unSt b) (oM (D.e c b) fun fb => some (qSortedSet fb)))
    | false => oM (dQl D c a) fun s => some (qSorted s)
  | _ => oM (dQl D c a) fun s => some (qSorted s)
def dL1 (x : Expr) : Option EvQ := match x with
  | .List es _ => oB (Nat.ble es.length 10000) (oB (noStB es) (D.a c es))
  | .ListComp e gens scope _ => dLc D c e gens scope
  | .Call (.Name f _) [a] [] _ => oB (glb c f) (oB (unSt a) (match isN f nList with
    | true => match isL a with
      | true => D.l c a
      | false => oM (D.e c a) fun fa => some (qKeys fa)
    | false => match isN f nSorted with
      | true => dSrt D c a
      | false => none))
  | _ => none
def dA1 (xs : List Expr) : Option EvQ := match xs with
  | [] => some qNil
  | x :: xs => oB (unSt x) (oM (D.e c x) fun f => oM (D.a c xs) fun s => some (qCons f s))
def dAs1 (xs : List Expr) : Option EvQ := match xs with
  | [] => some qNil
  | x :: xs => match x with
    | .Starred e _ => oM (dQ D c e) fun q => oM (D.as c xs) fun s => some (qStar q s)
    | x => oM (D.e c x) fun f => oM (D.as c xs) fun s => some (qCons f s)
def dTs1 (xs : List Expr) : Option EvT := match xs with
  | [] => some tYes
  | [x] => D.t c x
  | _ => none
def locB (x : Str) : Bool := match lkS x c.sc.names with
  | some .local => true
  | some .cell => c.fnb x
  | _ => false
def dG1 (L : List Nat) (x : Expr) : Option EvG := match x with
  | .Name nm _ => oM (ixS nm c.N 0) fun i => oB (locB c nm) (oB (L.elem i) (some (gNm (sOf i))))
  | .Tuple es _ _ => oB (noStB es) (oM (D.gs c L es) fun gs => oB (natEq gs.length es.length) (some (gTup gs)))
  | .Attribute o nm _ => oM (lkS nm c.ats) fun k => oM (D.e c o) fun f => some (gAttr c.fo f k)
  | .Subscript o i _ => oB (plainIx i) (oM (D.e c o) fun f => oM (D.e c i) fun g => some (gSub f g))
  | _ => none
def dGs1 (L : List Nat) (xs : List Expr) : Option (List EvG) := match xs with
  | [] => some []
  | x :: xs => oB (unSt x) (oM (D.g c L x) fun g => oM (D.gs c L xs) fun gs => some (g :: gs))
end
def den : Nat → Den
  | 0 => ⟨fun _ _ => none, fun _ _ => none, fun _ _ _ => none, fun _ _ => none, fun _ _ => none, fun _ _ => none, fun _ _ => none, fun _ _ _ => none, fun _ _ _ => none⟩
  | n + 1 => ⟨dE1 (den n), dT1 (den n), dW1 (den n), dL1 (den n), dA1 (den n), dAs1 (den n), dTs1 (den n), dG1 (den n), dGs1 (den n)⟩
end FP
end
section
namespace FP
open PySem PySem.Spec PyProof.Rows L2 PySem.SeqAt

section
variable {X : Cx} {G : Gd} {k : Nat} {c : Cc} {D : Den}
theorem tab_list (h : COk X G k c) {f : Str} (e : isN f nList = true) (g : glb c f = true) : f = ("list" : Str) := (isN_eq e).trans (by decide +kernel)
theorem isL_le {x : Expr} {P : Prop} (h : isL x = true → P) (h2 : isL x = false → P) : P := by
  cases e : isL x with
  | true => exact h e
  | false => exact h2 e
theorem dQ_ok (K : DenOk D) (h : COk X G k c) {x : Expr} {s : EvQ} (e : dQ D c x = some s) : SQ X G x s := by
  unfold dQ at e
  cases hl : isL x with
  | true => rw [hl] at e; exact q_of_l (K.l h e)
  | false =>
    rw [hl] at e
    obtain ⟨f, h1, h2⟩ := oM_some e
    cases h2
    exact q_of (K.e h h1)
theorem dQl_ok (K : DenOk D) (h : COk X G k c) {x : Expr} {s : EvQ} (e : dQl D c x = some s) : SQl X G x s := by
  unfold dQl at e
  cases hl : isL x with
  | true => rw [hl] at e; exact ql_of_l (K.l h e)
  | false =>
    rw [hl] at e
    obtain ⟨f, h1, h2⟩ := oM_some e
    cases h2
    exact ql_of (K.e h h1)
theorem dM_ok (K : DenOk D) (h : COk X G k c) {x : Expr} {s : EvQ} (e : dM D c x = some s) : SM X G x s := by
  unfold dM at e
  cases hl : isL x with
  | true => rw [hl] at e; exact m_of_l (K.l h e)
  | false =>
    rw [hl] at e
    obtain ⟨f, h1, h2⟩ := oM_some e
    cases h2
    exact m_of (K.e h h1)
theorem opB_ok (O : XOk X G) {op : Operator} {p : P2} (e : opB op = some p) : OP2 X G (binaryOp op) p := by
  cases op <;> first | (cases e; done) | skip
  · cases e; exact p_add O
  · cases e; exact p_sub O
  · cases e; exact p_mul O
  · cases e; exact p_mod O
  · cases e; exact p_pow O
  · cases e; exact p_fdiv O
theorem cmpB_ok (O : XOk X G) {op : CmpOp} {p : P2} (e : cmpB op = some p) : OP2 X G (compareOp op) p := by
  cases op <;> first | (cases e; done) | skip
  · cases e; exact p_eq O
  · cases e; exact p_ne O
  · cases e; exact p_lt O
  · cases e; exact p_le O
  · cases e; exact p_gt O
  · cases e; exact p_ge O
  · cases e; exact p_in O
  · cases e; exact p_notIn O
theorem b1_ok (h : COk X G k c) {f : Str} {p : P1} (e : b1 f = some p) (g : glb c f = true) : ∃ u, Bn X f u ∧ ((∃ id, u = .builtin id) ∨ ∃ T, u = .type T) ∧ CR1 X G u p := by
  unfold b1 at e
  split at e
  · cases e; exact ⟨_, bn_ok h bt_len (by assumption) g, .inl ⟨_, rfl⟩, c_len h.O⟩
  · split at e
    · cases e; exact ⟨_, bn_ok h bt_abs (by assumption) g, .inl ⟨_, rfl⟩, c_abs⟩
    · split at e
      · cases e; exact ⟨_, bn_ok h bt_int (by assumption) g, .inr ⟨_, rfl⟩, c_int⟩
      · cases e
theorem b2_ok (h : COk X G k c) {f : Str} {p : P2} (e : b2 f = some p) (g : glb c f = true) : ∃ u, Bn X f u ∧ ((∃ id, u = .builtin id) ∨ ∃ T, u = .type T) ∧ CR2 X G u p := by
  unfold b2 at e
  split at e
  · cases e; exact ⟨_, bn_ok h bt_max (by assumption) g, .inl ⟨_, rfl⟩, c_max2 h.O⟩
  · split at e
    · cases e; exact ⟨_, bn_ok h bt_min (by assumption) g, .inl ⟨_, rfl⟩, c_min2 h.O⟩
    · cases e
theorem bl_ok (h : COk X G k c) {f : Str} {p : PQ} (e : bl f = some p) (g : glb c f = true) : ∃ u, Bn X f u ∧ ((∃ id, u = .builtin id) ∨ ∃ T, u = .type T) ∧ CRL X G u p := by
  unfold bl at e
  split at e
  · cases e; exact ⟨_, bn_ok h bt_all (by assumption) g, .inl ⟨_, rfl⟩, c_all h.O⟩
  · split at e
    · cases e; exact ⟨_, bn_ok h bt_any (by assumption) g, .inl ⟨_, rfl⟩, c_any h.O⟩
    · split at e
      · cases e; exact ⟨_, bn_ok h bt_sum (by assumption) g, .inl ⟨_, rfl⟩, c_sum h.O⟩
      · split at e
        · cases e; exact ⟨_, bn_ok h bt_max (by assumption) g, .inl ⟨_, rfl⟩, c_max h.O⟩
        · split at e
          · cases e; exact ⟨_, bn_ok h bt_min (by assumption) g, .inl ⟨_, rfl⟩, c_min h.O⟩
          · cases e
theorem tyIx_ok (h : COk X G k c) {x : Str} {n : Nat} (e : tyIx c x = some n) : Bn X x (.type (tyNm n)) ∧ n < 7 := by
  obtain ⟨g, e⟩ := oB_some e
  split at e
  · cases e; exact ⟨bn_ok h bt_int (by assumption) g, by omega⟩
  · split at e
    · cases e; exact ⟨bn_ok h bt_tuple (by assumption) g, by omega⟩
    · split at e
      · cases e; exact ⟨bn_ok h bt_list (by assumption) g, by omega⟩
      · split at e
        · cases e; exact ⟨bn_ok h bt_str (by assumption) g, by omega⟩
        · split at e
          · cases e; exact ⟨bn_ok h bt_bool (by assumption) g, by omega⟩
          · split at e
            · cases e; exact ⟨bn_ok h bt_dict (by assumption) g, by omega⟩
            · cases e
theorem tyIxs_ok (h : COk X G k c) : ∀ {xs : List Expr} {ns : List Nat}, tyIxs c xs = some ns → TyEs X xs ns
  | [], _, e => by cases e; exact .nil
  | x :: xs, ns, e => by
    cases x with
    | Name nm p =>
      have e : (oM (tyIx c nm) fun k => oM (tyIxs c xs) fun ks => some (k :: ks)) = some ns := e
      obtain ⟨n, h1, e⟩ := oM_some e
      obtain ⟨ms, h2, e⟩ := oM_some e
      cases e
      obtain ⟨B, hn⟩ := tyIx_ok h h1
      exact .cons B hn (tyIxs_ok h h2)
    | _ => cases e
theorem strIsi {f : Str} (e : isN f nIsi = true) : f = ("isinstance" : Str) := (isN_eq e).trans (by decide +kernel)
theorem strTuple {f : Str} (e : isN f nTuple = true) : f = ("tuple" : Str) := (isN_eq e).trans (by decide +kernel)
theorem strList {f : Str} (e : isN f nList = true) : f = ("list" : Str) := (isN_eq e).trans (by decide +kernel)
theorem strSorted {f : Str} (e : isN f nSorted = true) : f = ("sorted" : Str) := (isN_eq e).trans (by decide +kernel)
theorem strSet {f : Str} (e : isN f nSet = true) : f = ("set" : Str) := (isN_eq e).trans (by decide +kernel)
theorem strRange {f : Str} (e : isN f nRange = true) : f = ("range" : Str) := (isN_eq e).trans (by decide +kernel)
theorem strZip {f : Str} (e : isN f nZip = true) : f = ("zip" : Str) := (isN_eq e).trans (by decide +kernel)
theorem strEnum {f : Str} (e : isN f nEnum = true) : f = ("enumerate" : Str) := (isN_eq e).trans (by decide +kernel)
theorem dIsi_ok (K : DenOk D) (h : COk X G k c) {f : Str} {a b : Expr} {s : EvE} {np pos : Pos} (hf : isN f nIsi = true) (g : glb c f = true) (ha : unSt a = true) (e : dIsi D c a b = some s) : SE X G (.Call (.Name f np) [a, b] [] pos) s := by
  have B := bn_ok h bt_isi hf g
  have ef := strIsi hf
  subst ef
  cases b with
  | Name nm p =>
    have e : (oM (tyIx c nm) fun k => oM (D.e c a) fun f => some (e1 (pIsinst [k]) f)) = some s := e
    obtain ⟨n, h1, e⟩ := oM_some e
    obtain ⟨fa, h2, e⟩ := oM_some e
    cases e
    obtain ⟨BT, hn⟩ := tyIx_ok h h1
    exact s_isi1 h.O B BT hn (unSt_ok ha) (K.e h h2)
  | Tuple es m p =>
    have e : (oB (Nat.ble es.length 10000) (oM (tyIxs c es) fun ks => oM (D.e c a) fun f => some (e1 (pIsinst ks) f))) = some s := e
    obtain ⟨hl, e⟩ := oB_some e
    obtain ⟨ns, h1, e⟩ := oM_some e
    obtain ⟨fa, h2, e⟩ := oM_some e
    cases e
    exact s_isiT h.O B (tyIxs_ok h h1) (Nat.le_of_ble_eq_true hl) (unSt_ok ha) (K.e h h2)
  | _ => cases e
theorem dBlt_ok (K : DenOk D) (h : COk X G k c) {f : Str} {args : List Expr} {s : EvE} {np pos : Pos} (g : glb c f = true) (e : dBlt D c f args = some s) : SE X G (.Call (.Name f np) args [] pos) s := by
  match args, e with
  | [], e => cases e
  | [a], e =>
    have e : oB (unSt a) (match b1 f with
      | some p => oM (D.e c a) fun fa => some (e1 p fa)
      | none => match isN f nTuple with
        | true => oM (dQ D c a) fun s => some (eQ qTuple s)
        | false => match bl f with
          | some p => oM (dQl D c a) fun s => some (eQ p s)
          | none => none) = some s := e
    obtain ⟨ha, e⟩ := oB_some e
    cases hb : b1 f with
    | some p =>
      simp only [hb] at e
      obtain ⟨fa, h1, e⟩ := oM_some e
      cases e
      obtain ⟨u, B, hu, hc⟩ := b1_ok h hb g
      exact s_call1 B hu hc (unSt_ok ha) (K.e h h1)
    | none =>
      simp only [hb] at e
      cases ht : isN f nTuple with
      | true =>
        simp only [ht] at e
        obtain ⟨q, h1, e⟩ := oM_some e
        cases e
        exact s_callQ (bn_ok h bt_tuple ht g) (.inr ⟨_, rfl⟩) (c_tuple h.O) (unSt_ok ha) (dQ_ok K h h1)
      | false =>
        simp only [ht] at e
        cases hl : bl f with
        | none => simp only [hl] at e; cases e
        | some p =>
          simp only [hl] at e
          obtain ⟨q, h1, e⟩ := oM_some e
          cases e
          obtain ⟨u, B, hu, hc⟩ := bl_ok h hl g
          exact s_callL B hu hc (unSt_ok ha) (dQl_ok K h h1)
  | [a, b], e =>
    have e : oB (unSt a) (oB (unSt b) (match isN f nIsi with
      | true => dIsi D c a b
      | false => oM (b2 f) fun p => oM (D.e c a) fun fa => oM (D.e c b) fun fb => some (e2 p fa fb))) = some s := e
    obtain ⟨ha, e⟩ := oB_some e
    obtain ⟨hb, e⟩ := oB_some e
    cases hi : isN f nIsi with
    | true => simp only [hi] at e; exact dIsi_ok K h hi g ha e
    | false =>
      simp only [hi] at e
      obtain ⟨p, h0, e⟩ := oM_some e
      obtain ⟨fa, h1, e⟩ := oM_some e
      obtain ⟨fb, h2, e⟩ := oM_some e
      cases e
      obtain ⟨u, B, hu, hc⟩ := b2_ok h h0 g
      exact s_call2 B hu hc (unSt_ok ha) (unSt_ok hb) (K.e h h1) (K.e h h2)
  | _ :: _ :: _ :: _, e => cases e
theorem dCallN_ok (K : DenOk D) (h : COk X G k c) {f : Str} {args : List Expr} {s : EvE} {np pos : Pos} (e : dCallN D c f args = some s) : SE X G (.Call (.Name f np) args [] pos) s := by
  obtain ⟨g, e⟩ := oB_some e
  cases h1 : lkS f c.fns with
  | some p =>
    simp only [h1] at e
    obtain ⟨hn, e⟩ := oB_some e
    obtain ⟨hl, e⟩ := oB_some e
    rw [lkS_eq] at h1
    obtain ⟨hd, ok⟩ := h.P.fn f p.1 p.2 h1
    have FA : FnAt X G f p.1 k (p.2 c.tab) := ⟨glb_ok h g, hd, ok⟩
    have hr := h.room.mono (Nat.le_succ k)
    cases args with
    | nil =>
      cases e
      have e0 : p.1 = 0 := (natEq_ok hl).symm
      rw [e0] at FA
      exact s_call0 h.O FA hr
    | cons x xs =>
      simp only at e
      obtain ⟨q, h2, e⟩ := oM_some e
      cases e
      exact s_call h.O FA hr (noStB_ok hn) (natEq_ok hl) (K.a h h2)
  | none =>
    simp only [h1] at e
    cases h2 : lkS f c.mks with
    | none => simp only [h2] at e; exact dBlt_ok K h g e
    | some p =>
      simp only [h2] at e
      cases args with
      | nil => cases e
      | cons x xs =>
        simp only at e
        obtain ⟨hn, e⟩ := oB_some e
        obtain ⟨hl, e⟩ := oB_some e
        obtain ⟨q, h3, e⟩ := oM_some e
        cases e
        rw [lkS_eq] at h2
        obtain ⟨hd, ok⟩ := h.P.mkc f p.1 p.2.1 p.2.2 h2
        exact s_make h.O ⟨glb_ok h g, hd, ok⟩ h.room (noStB_ok hn) (natEq_ok hl) (K.a h h3)
theorem tabs_pick {t : Tab} {cl : Nat} {F : FnF} : ∀ {l : List (Nat × TAc1)}, pick cl (tabs t l) = some F → ∃ a, (cl, a) ∈ l ∧ F = a t
  | [], e => nomatch e
  | p :: r, e => by
    have e : (match Nat.beq p.1 cl with | true => some (p.2 t) | false => pick cl (tabs t r)) = some F := e
    cases hb : Nat.beq p.1 cl with
    | true =>
      rw [hb] at e
      cases e
      exact ⟨p.2, by rw [← Nat.eq_of_beq_eq_true hb]; exact List.mem_cons_self, rfl⟩
    | false =>
      rw [hb] at e
      obtain ⟨a, h1, h2⟩ := tabs_pick e
      exact ⟨a, List.mem_cons_of_mem _ h1, h2⟩
theorem mts_ok (h : COk X G k c) {m : Str} {n : Nat} {l : List (Nat × TAc1)} (e : c.mts.lookup m = some (n, l)) : MtsAt X G m n k (tabs c.tab l) := fun cl C F hp hC => by
  obtain ⟨a, h1, rfl⟩ := tabs_pick hp
  exact ⟨h.P.mt m n l e cl a C h1 hC⟩
theorem dMet_ok (K : DenOk D) (h : COk X G k c) {o : Expr} {m : Str} {args : List Expr} {s : EvE} {apos pos : Pos} (hb : plainBase o = true) (hline : (apos.endLine == pos.line) = true) (e : dMet D c o m args = some s) : SE X G (.Call (.Attribute o m apos) args [] pos) s := by
  unfold dMet at e
  cases h1 : lkS m c.mts with
  | some p =>
    simp only [h1] at e
    obtain ⟨hn, e⟩ := oB_some e
    obtain ⟨hl, e⟩ := oB_some e
    obtain ⟨hp, e⟩ := oB_some e
    obtain ⟨fo, h2, e⟩ := oM_some e
    rw [lkS_eq] at h1
    have M := mts_ok h (n := p.1) (l := p.2) h1
    have hr := h.room.mono (Nat.le_succ k)
    cases args with
    | nil =>
      cases e
      have e1 : p.1 = 1 := (natEq_ok hp).symm
      rw [e1] at M
      exact s_meth0 h.O M hr (K.e h h2) hb hline
    | cons x xs =>
      simp only at e
      obtain ⟨q, h3, e⟩ := oM_some e
      cases e
      exact s_meth h.O M hr (K.e h h2) (K.a h h3) hb (noStB_ok hn) (blt_lt hl) (natEq_ok hp) hline
  | none =>
    simp only [h1] at e
    match args, e with
    | [], e =>
      obtain ⟨hm, e⟩ := oB_some e
      obtain ⟨fo, h2, e⟩ := oM_some e
      cases e
      have em := (isN_eq hm).trans (show strOf [112, 111, 112] = ("pop" : Str) by decide +kernel)
      subst em
      exact s_L1 m_pop (K.e h h2) hb hline
    | [x], e =>
      obtain ⟨hx, e⟩ := oB_some e
      obtain ⟨fo, h2, e⟩ := oM_some e
      cases q1 : isN m [97, 112, 112, 101, 110, 100] with
      | true =>
        simp only [q1] at e
        obtain ⟨fx, h3, e⟩ := oM_some e
        cases e
        have em := (isN_eq q1).trans (show strOf [97, 112, 112, 101, 110, 100] = ("append" : Str) by decide +kernel)
        subst em
        exact s_L2 m_append (K.e h h2) (K.e h h3) (unSt_ok hx) hb hline
      | false =>
        simp only [q1] at e
        cases q2 : isN m [101, 120, 116, 101, 110, 100] with
        | true =>
          simp only [q2] at e
          obtain ⟨fx, h3, e⟩ := oM_some e
          cases e
          have em := (isN_eq q2).trans (show strOf [101, 120, 116, 101, 110, 100] = ("extend" : Str) by decide +kernel)
          subst em
          exact s_ext h.O (K.e h h2) (dM_ok K h h3) (unSt_ok hx) hb hline
        | false =>
          simp only [q2] at e
          cases q3 : isN m [105, 110, 100, 101, 120] with
          | true =>
            simp only [q3] at e
            obtain ⟨fx, h3, e⟩ := oM_some e
            cases e
            have em := (isN_eq q3).trans (show strOf [105, 110, 100, 101, 120] = ("index" : Str) by decide +kernel)
            subst em
            exact s_index h.O (K.e h h2) (K.e h h3) (unSt_ok hx) hb hline
          | false =>
            simp only [q3] at e
            cases q4 : isN m [117, 112, 100, 97, 116, 101] with
            | true =>
              simp only [q4] at e
              obtain ⟨fx, h3, e⟩ := oM_some e
              cases e
              have em := (isN_eq q4).trans (show strOf [117, 112, 100, 97, 116, 101] = ("update" : Str) by decide +kernel)
              subst em
              exact s_D2 (m_update h.O) (K.e h h2) (K.e h h3) (unSt_ok hx) hb hline
            | false =>
              simp only [q4] at e
              cases q5 : isN m [103, 101, 116] with
              | false => simp only [q5] at e; cases e
              | true =>
                simp only [q5] at e
                obtain ⟨fx, h3, e⟩ := oM_some e
                cases e
                have em := (isN_eq q5).trans (show strOf [103, 101, 116] = ("get" : Str) by decide +kernel)
                subst em
                exact s_D2 (m_get1 h.O) (K.e h h2) (K.e h h3) (unSt_ok hx) hb hline
    | [x, y], e =>
      obtain ⟨hx, e⟩ := oB_some e
      obtain ⟨hy, e⟩ := oB_some e
      obtain ⟨fo, h2, e⟩ := oM_some e
      obtain ⟨fx, h3, e⟩ := oM_some e
      obtain ⟨fy, h4, e⟩ := oM_some e
      cases q1 : isN m [105, 110, 115, 101, 114, 116] with
      | true =>
        simp only [q1] at e
        cases e
        have em := (isN_eq q1).trans (show strOf [105, 110, 115, 101, 114, 116] = ("insert" : Str) by decide +kernel)
        subst em
        exact s_L3 m_insert (K.e h h2) (K.e h h3) (K.e h h4) (unSt_ok hx) (unSt_ok hy) hb hline
      | false =>
        simp only [q1] at e
        cases q2 : isN m [103, 101, 116] with
        | false => simp only [q2] at e; cases e
        | true =>
          simp only [q2] at e
          cases e
          have em := (isN_eq q2).trans (show strOf [103, 101, 116] = ("get" : Str) by decide +kernel)
          subst em
          exact s_D3 (m_get2 h.O) (K.e h h2) (K.e h h3) (K.e h h4) (unSt_ok hx) (unSt_ok hy) hb hline
    | _ :: _ :: _ :: _, e => cases e
theorem dO_ok (K : DenOk D) (h : COk X G k c) {x : Option Expr} {f : EvE} (e : dO D c x = some f) : SO X G x f := by
  cases x with
  | none => cases e; exact rfl
  | some x => exact K.e h e
theorem dSub_ok (K : DenOk D) (h : COk X G k c) {o i : Expr} {s : EvE} {pos : Pos} (e : dSub D c o i = some s) : SE X G (.Subscript o i pos) s := by
  have gen : plainIx i = true → (oM (D.e c o) fun fo => oM (D.e c i) fun fi => some (e2 pIndex fo fi)) = some s → SE X G (.Subscript o i pos) s := fun hp e => by
    obtain ⟨fo, h1, e⟩ := oM_some e
    obtain ⟨fi, h2, e⟩ := oM_some e
    cases e
    exact s_ix (ix_all h.O) (K.e h h1) (K.e h h2) (plainIx_of hp)
  cases i with
  | Slice lo hi st p =>
    cases st with
    | none =>
      have e : (oM (D.e c o) fun fo => oM (dO D c lo) fun fl => oM (dO D c hi) fun fh => some (eSlice fo fl fh)) = some s := e
      obtain ⟨fo, h1, e⟩ := oM_some e
      obtain ⟨fl, h2, e⟩ := oM_some e
      obtain ⟨fh, h3, e⟩ := oM_some e
      cases e
      exact s_slice h.O (K.e h h1) (dO_ok K h h2) (dO_ok K h h3)
    | some st =>
      cases lo with
      | some _ => cases e
      | none => cases hi with
        | some _ => cases e
        | none =>
          cases st with
          | UnaryOp op a p1 =>
            cases op with
            | USub => cases a with
              | Constant v j p2 => cases v with
                | int n =>
                  have e : oB (ibeq n 1) (oM (D.e c o) fun fo => some (e1 pRev fo)) = some s := e
                  obtain ⟨hn, e⟩ := oB_some e
                  obtain ⟨fo, h1, e⟩ := oM_some e
                  cases e
                  rw [ibeq_eq, decide_eq_true_iff] at hn
                  subst hn
                  exact s_rev h.O (K.e h h1)
                | _ => cases e
              | _ => cases e
            | _ => cases e
          | _ => cases e
  | _ => exact gen rfl e
theorem isTg_ok {tg : Expr} (h : isTg tg = true) : ∃ es kk p, tg = .Tuple es kk p := by
  cases tg <;> first | exact ⟨_, _, _, rfl⟩ | cases h
theorem dIany_ok (K : DenOk D) (h : COk X G k c) {tg it : Expr} {r : Bool × EvI} (e : dIany D c it = some r) : SI X G (irB G r.1) tg it r.2 := by
  unfold dIany at e
  cases hl : isL it with
  | true =>
    rw [hl] at e
    obtain ⟨s, h1, e⟩ := oM_some e
    cases e
    exact si_new h.O (K.l h h1)
  | false =>
    rw [hl] at e
    obtain ⟨s, h1, e⟩ := oM_some e
    cases e
    exact si_of h.O (K.e h h1)
theorem ns1 {a : Expr} (h : noStB [a] = true) : unSt a = true := (noStB_cons h).1
theorem dI_ok (K : DenOk D) (h : COk X G k c) {tg it : Expr} {r : Bool × EvI} (e : dI D c tg it = some r) : SI X G (irB G r.1) tg it r.2 := by
  have any : dI D c tg it = dIany D c it → SI X G (irB G r.1) tg it r.2 := fun q => dIany_ok K h (by rw [← q]; exact e)
  cases it with
  | Call fn args kws pos =>
    cases fn with
    | Name f np =>
      cases kws with
      | cons _ _ => exact any rfl
      | nil =>
        unfold dI at e any
        simp only at e any
        cases q1 : isN f nRange with
        | true =>
          simp only [q1] at e
          obtain ⟨g, ea⟩ := oB_some e
          obtain ⟨hn, eb⟩ := oB_some ea
          have B := bn_ok h bt_range q1 g
          have ef := strRange q1
          clear e ea any
          subst ef
          match args, hn, eb with
          | [], _, e => cases e
          | [a], hn, e =>
            obtain ⟨fa, h1, e⟩ := oM_some e
            cases e
            exact si_rng1 h.O B (K.e h h1) (unSt_ok (noStB_cons hn).1)
          | [a, b], hn, e =>
            obtain ⟨fa, h1, e⟩ := oM_some e
            obtain ⟨fb, h2, e⟩ := oM_some e
            cases e
            exact si_rng2 h.O B (K.e h h1) (K.e h h2) (unSt_ok (noStB_cons hn).1) (unSt_ok (noStB_cons (noStB_cons hn).2).1)
          | [a, b, d], hn, e =>
            obtain ⟨fa, h1, e⟩ := oM_some e
            obtain ⟨fb, h2, e⟩ := oM_some e
            obtain ⟨fd, h3, e⟩ := oM_some e
            cases e
            exact si_rng3 h.O B (K.e h h1) (K.e h h2) (K.e h h3) (unSt_ok (noStB_cons hn).1) (unSt_ok (noStB_cons (noStB_cons hn).2).1) (unSt_ok (noStB_cons (noStB_cons (noStB_cons hn).2).2).1)
          | _ :: _ :: _ :: _ :: _, _, e => cases e
        | false =>
          simp only [q1] at e any
          cases q2 : isN f nZip with
          | true =>
            simp only [q2] at e
            obtain ⟨g, ea⟩ := oB_some e
            obtain ⟨hn, eb⟩ := oB_some ea
            obtain ⟨ht, ec⟩ := oB_some eb
            clear e ea eb any
            obtain ⟨es, kk, tp, rfl⟩ := isTg_ok ht
            have B := bn_ok h bt_zip q2 g
            have ef := strZip q2
            subst ef
            match args, hn, ec with
            | [], _, e => cases e
            | [a], _, e => cases e
            | [a, b], hn, e =>
              obtain ⟨fa, h1, e⟩ := oM_some e
              obtain ⟨fb, h2, e⟩ := oM_some e
              cases e
              exact si_zip h.O B (K.e h h1) (K.e h h2) (unSt_ok (noStB_cons hn).1) (unSt_ok (noStB_cons (noStB_cons hn).2).1)
            | _ :: _ :: _ :: _, _, e => cases e
          | false =>
            simp only [q2] at e any
            cases q3 : isN f nEnum with
            | false => simp only [q3] at e any; exact any trivial
            | true =>
              simp only [q3] at e
              obtain ⟨g, ea⟩ := oB_some e
              obtain ⟨hn, eb⟩ := oB_some ea
              obtain ⟨ht, ec⟩ := oB_some eb
              clear e ea eb any
              obtain ⟨es, kk, tp, rfl⟩ := isTg_ok ht
              have B := bn_ok h bt_enum q3 g
              have ef := strEnum q3
              subst ef
              match args, hn, ec with
              | [], _, e => cases e
              | [a], hn, e =>
                simp only at e
                cases hl : isL a with
                | true =>
                  simp only [hl] at e
                  obtain ⟨fa, h1, e⟩ := oM_some e
                  cases e
                  exact si_enumQ h.O B (K.l h h1) (unSt_ok (noStB_cons hn).1)
                | false =>
                  simp only [hl] at e
                  obtain ⟨fa, h1, e⟩ := oM_some e
                  cases e
                  exact si_enum h.O B (K.e h h1) (unSt_ok (noStB_cons hn).1)
              | _ :: _ :: _, _, e => cases e
    | Attribute o m apos =>
      cases args with
      | cons _ _ => exact any rfl
      | nil => cases kws with
        | cons _ _ => exact any rfl
        | nil =>
          unfold dI at e any
          simp only at e any
          cases q1 : isN m [105, 116, 101, 109, 115] with
          | false => simp only [q1] at e any; exact any trivial
          | true =>
            simp only [q1] at e
            obtain ⟨ht, ea⟩ := oB_some e
            obtain ⟨hb, eb⟩ := oB_some ea
            obtain ⟨hl, ec⟩ := oB_some eb
            obtain ⟨fo, h1, ed⟩ := oM_some ec
            clear e ea eb ec any
            cases ed
            obtain ⟨es, kk, tp, rfl⟩ := isTg_ok ht
            have em := (isN_eq q1).trans (show strOf [105, 116, 101, 109, 115] = ("items" : Str) by decide +kernel)
            subst em
            exact si_items h.O (K.e h h1) hb hl
    | _ => exact any rfl
  | _ => exact any rfl
theorem dGi_ok (K : DenOk D) (h : COk X G k c) {L : List Nat} {b : Bool} {tg : Expr} {g : EvG} {W0 : WX} (tk : Takes X W0) (e : dGi D c L b tg = some g) : SGi X G (irB G b) L tg g := by
  cases b with
  | false => exact K.g h tk e
  | true =>
    cases tg with
    | Tuple es kk p =>
      match es, e with
      | [], e => cases e
      | [_], e => cases e
      | [x, y], e =>
        have e : oB (noStB [x, y]) (oM (D.gs c L [x, y]) fun gs => some (gTup gs)) = some g := e
        obtain ⟨hn, e⟩ := oB_some e
        obtain ⟨gs, h1, e⟩ := oM_some e
        cases e
        exact g_pair h.O (noStB_ok hn) (K.gs h tk h1)
      | _ :: _ :: _ :: _, e => cases e
    | _ => cases e
end
end FP
end
section
namespace FP
open PySem PySem.Spec PyProof.Rows L2 PySem.SeqAt

section
variable {X : Cx} {G : Gd} {k : Nat} {c : Cc} {D : Den}
theorem fnKd_ok {s : Scope} (h : fnKd s = true) : s.kind = .function := by
  unfold fnKd at h
  split at h
  · assumption
  · cases h
theorem async0 {g : Comprehension} (h : ibeq g.is_async 0 = true) : ∃ tg it ifs, g = ⟨tg, it, ifs, 0⟩ := by
  obtain ⟨tg, it, ifs, a⟩ := g
  rw [ibeq_eq, decide_eq_true_iff] at h
  have h : a = 0 := h
  subst h
  exact ⟨tg, it, ifs, rfl⟩
theorem blkC_ok (h : COk X G k c) {scope : Scope} {own : List (Str × Nat)} (e : blkC c.N c.sc scope own = true) : blkC X.N X.env.scope scope own = true := by rw [h.N, h.sc]; exact e
theorem dLc_ok (K : DenOk D) (h : COk X G k c) {elt : Expr} {gens : List Comprehension} {scope : Scope} {s : EvQ} {pos : Pos} (e : dLc D c elt gens scope = some s) : SL X G (.ListComp elt gens scope pos) s := by
  match gens, e with
  | [], e => cases e
  | [g1], e =>
    have e : oB (ibeq g1.is_async 0) (oB (blkC c.N c.sc scope (ownOf c.N scope.names)) (oB (fnKd scope) (oB (plainIt g1.iter) (oM (dI D c g1.target g1.iter) fun fi =>
      oM (dGi D (c.blk scope) (slots (ownOf c.N scope.names)) fi.1 g1.target) fun fg => oM (D.ts (c.blk scope) g1.ifs) fun ft => oM (D.e (c.blk scope) elt) fun fe =>
      some (qComp (sets (slots (ownOf c.N scope.names))) fi.2 fg ft (cElt fe)))))) = some s := e
    obtain ⟨h0, e⟩ := oB_some e
    obtain ⟨hb, e⟩ := oB_some e
    obtain ⟨hk, e⟩ := oB_some e
    obtain ⟨hp, e⟩ := oB_some e
    obtain ⟨fi, h1, e⟩ := oM_some e
    obtain ⟨fg, h2, e⟩ := oM_some e
    obtain ⟨ft, h3, e⟩ := oM_some e
    obtain ⟨fe, h4, e⟩ := oM_some e
    cases e
    obtain ⟨tg, it, ifs, rfl⟩ := async0 h0
    rw [sets_eq, slots_eq]
    rw [slots_eq] at h2
    exact l_lc h.O (blkC_ok h hb) (dI_ok K h h1) (fun s H C cl fp => dGi_ok K (h.blk (fnKd_ok hk)) takes0 h2) (fun s H C cl fp => K.ts (h.blk (fnKd_ok hk)) h3) (fun s H C cl fp => K.e (h.blk (fnKd_ok hk)) h4) hp
  | [g1, g2], e =>
    have e : oB (ibeq g1.is_async 0) (oB (ibeq g2.is_async 0) (oB (blkC c.N c.sc scope (ownOf c.N scope.names)) (oB (fnKd scope) (oB (plainIt g1.iter) (oB (plainIt g2.iter) (oB ((tgIx c 5 g2.target).all fun k => (slots (ownOf c.N scope.names)).elem k) (oM (dI D c g1.target g1.iter) fun fi =>
      oM (dGi D (c.blk scope) (slots (ownOf c.N scope.names)) fi.1 g1.target) fun fg => oM (D.ts (c.blk scope) g1.ifs) fun ft =>
      oM (D.e (c.blk scope) g2.iter) fun fi2 => oM (D.g (c.blk scope) (tgIx c 5 g2.target) g2.target) fun fg2 => oM (D.ts (c.blk scope) g2.ifs) fun ft2 => oM (D.e (c.blk scope) elt) fun fe =>
      some (qComp (sets (slots (ownOf c.N scope.names))) fi.2 fg ft (cFor (sets (tgIx c 5 g2.target)) (iSeq fi2) fg2 ft2 (cEltF fe)))))))))) = some s := e
    obtain ⟨h0, e⟩ := oB_some e
    obtain ⟨h00, e⟩ := oB_some e
    obtain ⟨hb, e⟩ := oB_some e
    obtain ⟨hk, e⟩ := oB_some e
    obtain ⟨hp, e⟩ := oB_some e
    obtain ⟨hp2, e⟩ := oB_some e
    obtain ⟨hs, e⟩ := oB_some e
    obtain ⟨fi, h1, e⟩ := oM_some e
    obtain ⟨fg, h2, e⟩ := oM_some e
    obtain ⟨ft, h3, e⟩ := oM_some e
    obtain ⟨fi2, h4, e⟩ := oM_some e
    obtain ⟨fg2, h5, e⟩ := oM_some e
    obtain ⟨ft2, h6, e⟩ := oM_some e
    obtain ⟨fe, h7, e⟩ := oM_some e
    cases e
    obtain ⟨tg, it, ifs, rfl⟩ := async0 h0
    obtain ⟨tg2, it2, ifs2, rfl⟩ := async0 h00
    rw [sets_eq, slots_eq, sets_eq]
    rw [slots_eq] at h2 hs
    exact l_lc2 h.O (blkC_ok h hb) (blk_sub hs) (dI_ok K h h1) (fun s H C cl fp => dGi_ok K (h.blk (fnKd_ok hk)) takes0 h2) (fun s H C cl fp => K.ts (h.blk (fnKd_ok hk)) h3)
      (fun s H C cl fp => si_seqF h.O.blk (K.e (h.blk (fnKd_ok hk)) h4)) (fun s H C cl fp => K.g (h.blk (fnKd_ok hk)) takes0 h5) (fun s H C cl fp => K.ts (h.blk (fnKd_ok hk)) h6) (fun s H C cl fp => K.e (h.blk (fnKd_ok hk)) h7) hp hp2
  | _ :: _ :: _ :: _, e => cases e
theorem dDc_ok (K : DenOk D) (h : COk X G k c) {kx vx : Expr} {gens : List Comprehension} {scope : Scope} {s : EvE} {pos : Pos} (e : dDc D c kx vx gens scope = some s) : SE X G (.DictComp kx vx gens scope pos) s := by
  match gens, e with
  | [], e => cases e
  | [g1], e =>
    have e : oB (ibeq g1.is_async 0) (oB (blkC c.N c.sc scope (ownOf c.N scope.names)) (oB (fnKd scope) (oB (plainIt g1.iter) (oM (dI D c g1.target g1.iter) fun fi =>
      oM (dGi D (c.blk scope) (slots (ownOf c.N scope.names)) fi.1 g1.target) fun fg => oM (D.ts (c.blk scope) g1.ifs) fun ft => oM (D.e (c.blk scope) kx) fun fk => oM (D.e (c.blk scope) vx) fun fv =>
      some (eDComp (sets (slots (ownOf c.N scope.names))) fi.2 fg ft (dElt fk fv)))))) = some s := e
    obtain ⟨h0, e⟩ := oB_some e
    obtain ⟨hb, e⟩ := oB_some e
    obtain ⟨hk, e⟩ := oB_some e
    obtain ⟨hp, e⟩ := oB_some e
    obtain ⟨fi, h1, e⟩ := oM_some e
    obtain ⟨fg, h2, e⟩ := oM_some e
    obtain ⟨ft, h3, e⟩ := oM_some e
    obtain ⟨fk, h4, e⟩ := oM_some e
    obtain ⟨fv, h5, e⟩ := oM_some e
    cases e
    obtain ⟨tg, it, ifs, rfl⟩ := async0 h0
    rw [sets_eq, slots_eq]
    rw [slots_eq] at h2
    exact s_dc h.O (blkC_ok h hb) (dI_ok K h h1) (fun s H C cl fp => dGi_ok K (h.blk (fnKd_ok hk)) takes0 h2) (fun s H C cl fp => K.ts (h.blk (fnKd_ok hk)) h3) (fun s H C cl fp => K.e (h.blk (fnKd_ok hk)) h4) (fun s H C cl fp => K.e (h.blk (fnKd_ok hk)) h5) hp
  | _ :: _ :: _, e => cases e
theorem isNone_ok {b : Expr} (h : isNone b = true) : ∃ j p, b = .Constant .none j p := by
  cases b with
  | Constant v j p => cases v <;> first | exact ⟨j, p, rfl⟩ | cases h
  | _ => cases h
theorem neg_ok {b : Bool} (h : (!b) = true) : b = false := by cases b <;> first | rfl | cases h
/-- a comparison: as a value, as a test -/
theorem dCmps_ok (K : DenOk D) (h : COk X G k c) {a : Expr} {ops : List CmpOp} {es : List Expr} {f : EvE} {pos : Pos} (e : dCmps D c a ops es = some f) : SE X G (.Compare a ops es pos) f ∧ ST X G (.Compare a ops es pos) (tBl f) := by
  match ops, es, e with
  | [], _, e => cases e
  | [op], [], e => cases e
  | [op], [b], e =>
    have e : dCmp D c a op b = some f := e
    have gen : (oB (!behindInMarks op b) (oM (cmpB op) fun p => oM (D.e c a) fun fa => oM (D.e c b) fun fb => some (e2 p fa fb))) = some f → SE X G (.Compare a [op] [b] pos) f ∧ ST X G (.Compare a [op] [b] pos) (tBl f) := fun e => by
      obtain ⟨hm, e⟩ := oB_some e
      obtain ⟨p, h1, e⟩ := oM_some e
      obtain ⟨fa, h2, e⟩ := oM_some e
      obtain ⟨fb, h3, e⟩ := oM_some e
      cases e
      exact ⟨s_cmp (cmpB_ok h.O h1) (neg_ok hm) (K.e h h2) (K.e h h3), t_cmp (cmpB_ok h.O h1) (neg_ok hm) (K.e h h2) (K.e h h3)⟩
    cases op with
    | Is =>
      have e : oB (isNone b) (oM (D.e c a) fun f => some (e1 pIsN f)) = some f := e
      obtain ⟨hb, e⟩ := oB_some e
      obtain ⟨fa, h1, e⟩ := oM_some e
      cases e
      obtain ⟨j, p, rfl⟩ := isNone_ok hb
      exact ⟨s_isN (K.e h h1), t_isN (K.e h h1)⟩
    | IsNot =>
      have e : oB (isNone b) (oM (D.e c a) fun f => some (e1 pNotN f)) = some f := e
      obtain ⟨hb, e⟩ := oB_some e
      obtain ⟨fa, h1, e⟩ := oM_some e
      cases e
      obtain ⟨j, p, rfl⟩ := isNone_ok hb
      exact ⟨s_notN (K.e h h1), t_notN (K.e h h1)⟩
    | _ => exact gen e
  | [op], _ :: _ :: _, e => cases e
  | [op, op2], [], e => cases e
  | [op, op2], [_], e => cases e
  | [op, op2], [b, d], e =>
    have e : oB (!lastMarks [op, op2] [b, d]) (oM (cmpB op) fun p => oM (cmpB op2) fun q => oM (D.e c a) fun fa => oM (D.e c b) fun fb => oM (D.e c d) fun fd => some (eChain p q fa fb fd)) = some f := e
    obtain ⟨hm, e⟩ := oB_some e
    obtain ⟨p, h1, e⟩ := oM_some e
    obtain ⟨q, h2, e⟩ := oM_some e
    obtain ⟨fa, h3, e⟩ := oM_some e
    obtain ⟨fb, h4, e⟩ := oM_some e
    obtain ⟨fd, h5, e⟩ := oM_some e
    cases e
    exact ⟨s_chain (cmpB_ok h.O h1) (cmpB_ok h.O h2) (neg_ok hm) (K.e h h3) (K.e h h4) (K.e h h5), t_chain (cmpB_ok h.O h1) (cmpB_ok h.O h2) (neg_ok hm) (K.e h h3) (K.e h h4) (K.e h h5)⟩
  | [op, op2], _ :: _ :: _ :: _, e => cases e
  | _ :: _ :: _ :: _, _, e => cases e
/-- a global constant -/
theorem s_con (h : COk X G k c) {x : Str} {v : Vl} {pos : Pos} (g : glb c x = true) (e : lkS x c.cons = some v) : SE X G (.Name x pos) (eCst v) := by
  rw [lkS_eq] at e
  obtain ⟨hd, u, t, h1, h2, h4⟩ := h.P.cn x v e
  exact s_cst ⟨fun pins s σ H Q I q => ld_glob I (glb_ok h g) h1 ⟨u, H, I, h2, q⟩ hd⟩ h4
theorem dNm_ok (h : COk X G k c) {x : Str} {f : EvE} {pos : Pos} (e : dNm c x = some f) : SE X G (.Name x pos) f := by
  have con : (oB (glb c x) (oM (lkS x c.cons) fun v => some (eCst v))) = some f → SE X G (.Name x pos) f := fun e => by
    obtain ⟨g, e⟩ := oB_some e
    obtain ⟨v, h1, e⟩ := oM_some e
    cases e
    exact s_con h g h1
  unfold dNm at e
  cases hi : ixS x c.N 0 with
  | none => simp only [hi] at e; exact con e
  | some i =>
    simp only [hi] at e
    cases hv : visB c x with
    | false => simp only [hv] at e; exact con e
    | true =>
      simp only [hv] at e
      obtain ⟨ho, e⟩ := oB_some e
      cases e
      obtain ⟨o1, o2⟩ := okN_ok ho
      exact s_var h.O (by rw [h.N]; exact ixS_at hi) (visB_ok h hv) o1 o2
theorem isL_call {f : Str} {np pos : Pos} {args : List Expr} (h : isL (.Call (.Name f np) args [] pos) = true) : ∃ a, args = [a] := by
  match args, h with
  | [a], _ => exact ⟨a, rfl⟩
  | [], h => cases h
  | _ :: _ :: _, h => cases h
theorem dE1_ok (K : DenOk D) (h : COk X G k c) {x : Expr} {f : EvE} (e : dE1 D c x = some f) : SE X G x f := by
  cases x with
  | Name nm p => exact dNm_ok h e
  | Constant v j p =>
    cases v with
    | int i => cases e; exact s_int
    | bool b => cases e; exact s_bl
    | none => cases e; exact s_non
    | str s => cases e; exact s_str
    | _ => cases e
  | BinOp a op b p =>
    have e : (oM (opB op) fun p => oM (D.e c a) fun fa => oM (D.e c b) fun fb => some (e2 p fa fb)) = some f := e
    obtain ⟨q, h1, e⟩ := oM_some e
    obtain ⟨fa, h2, e⟩ := oM_some e
    obtain ⟨fb, h3, e⟩ := oM_some e
    cases e
    exact s_bin (opB_ok h.O h1) (K.e h h2) (K.e h h3)
  | UnaryOp op a p =>
    cases op with
    | USub =>
      have e : (oM (D.e c a) fun f => some (e1 pNeg f)) = some f := e
      obtain ⟨fa, h2, e⟩ := oM_some e
      cases e
      exact s_un (p_neg h.O) (K.e h h2)
    | Not =>
      have e : (oM (D.e c a) fun f => some (e1 pNot f)) = some f := e
      obtain ⟨fa, h2, e⟩ := oM_some e
      cases e
      exact s_notE h.O (K.e h h2)
    | _ => cases e
  | BoolOp op xs p =>
    match xs, e with
    | [], e => cases e
    | [a], e => exact s_bool1 (K.e h e)
    | a :: b :: r, e =>
      have e : (oM (D.e c a) fun fa => oM (D.e c (.BoolOp op (b :: r) p)) fun fb => match op with
        | .And => some (eAnd fa fb)
        | .Or => some (eOr fa fb)) = some f := e
      obtain ⟨fa, h2, e⟩ := oM_some e
      obtain ⟨fb, h3, e⟩ := oM_some e
      cases op with
      | And => cases e; exact s_andE h.O (K.e h h2) (K.e h h3)
      | Or => cases e; exact s_orE h.O (K.e h h2) (K.e h h3)
  | IfExp t a b p =>
    have e : (oM (D.t c t) fun ft => oM (D.e c a) fun fa => oM (D.e c b) fun fb => some (eIte ft fa fb)) = some f := e
    obtain ⟨ft, h1, e⟩ := oM_some e
    obtain ⟨fa, h2, e⟩ := oM_some e
    obtain ⟨fb, h3, e⟩ := oM_some e
    cases e
    exact s_ite (K.t h h1) (K.e h h2) (K.e h h3)
  | Compare a ops es p => exact (dCmps_ok K h e).1
  | Attribute o nm p =>
    have e : oB (plainBase o) (oM (lkS nm c.ats) fun k => oM (D.e c o) fun f => some (eAttr f k)) = some f := e
    obtain ⟨hb, e⟩ := oB_some e
    obtain ⟨i, h1, e⟩ := oM_some e
    obtain ⟨fo, h2, e⟩ := oM_some e
    cases e
    rw [lkS_eq] at h1
    exact s_attr h.O (h.P.att nm i h1) hb (K.e h h2)
  | Subscript o i p => exact dSub_ok K h e
  | Tuple es j p =>
    have e : (match noStB es with
      | true => oB (Nat.ble es.length 10000) (oM (D.a c es) fun s => some (eQ qTuple s))
      | false => oM (D.as c es) fun s => some (eQ qTupS s)) = some f := e
    cases hn : noStB es with
    | true =>
      simp only [hn] at e
      obtain ⟨hl, e⟩ := oB_some e
      obtain ⟨s, h1, e⟩ := oM_some e
      cases e
      exact s_tup (Nat.le_of_ble_eq_true hl) (K.a h h1)
    | false =>
      simp only [hn] at e
      obtain ⟨s, h1, e⟩ := oM_some e
      cases e
      exact s_tupS (K.as h h1)
  | Dict ks vs p =>
    cases ks with
    | cons _ _ => cases e
    | nil => cases vs with
      | cons _ _ => cases e
      | nil => cases e; exact s_dic0 h.O
  | DictComp kx vx gens scope p => exact dDc_ok K h e
  | List es p =>
    have e : (oM (D.l c (.List es p)) fun s => some (eQ qList s)) = some f := e
    obtain ⟨s, h1, e⟩ := oM_some e
    cases e
    exact s_newL (K.l h h1)
  | ListComp el gens sc p =>
    have e : (oM (D.l c (.ListComp el gens sc p)) fun s => some (eQ qList s)) = some f := e
    obtain ⟨s, h1, e⟩ := oM_some e
    cases e
    exact s_newL (K.l h h1)
  | Call fn args kws pos =>
    cases kws with
    | cons _ _ => cases e
    | nil =>
      cases fn with
      | Name nm np =>
        have e : (match isL (.Call (.Name nm np) args [] pos) with
          | true => oM (D.l c (.Call (.Name nm np) args [] pos)) fun s => some (eQ qList s)
          | false => dCallN D c nm args) = some f := e
        cases hl : isL (.Call (.Name nm np) args [] pos) with
        | true =>
          simp only [hl] at e
          obtain ⟨s, h1, e⟩ := oM_some e
          cases e
          exact s_newL (K.l h h1)
        | false =>
          simp only [hl] at e
          exact dCallN_ok K h e
      | Attribute o m apos =>
        have e : oB (plainBase o) (oB (apos.endLine == pos.line) (dMet D c o m args)) = some f := e
        obtain ⟨hb, e⟩ := oB_some e
        obtain ⟨hl, e⟩ := oB_some e
        exact dMet_ok K h hb hl e
      | _ => cases e
  | _ => cases e
theorem plainT_ok {x : Expr} {env : PySem.Env} (h : plainT x = true) : ∀ whole, isTrue x env whole = (do let v ← whole; standAt x.pos; holding [v] (truthy v)) := by
  cases x <;> first | exact fun _ => rfl | cases h
theorem dT1_ok (K : DenOk D) (h : COk X G k c) {x : Expr} {f : EvT} (e : dT1 D c x = some f) : ST X G x f := by
  have gen : oB (plainT x) (oM (D.e c x) fun f => some (tOfE f)) = some f → ST X G x f := fun e => by
    obtain ⟨hp, e⟩ := oB_some e
    obtain ⟨fa, h1, e⟩ := oM_some e
    cases e
    exact t_ofE h.O (plainT_ok hp) (K.e h h1)
  cases x with
  | UnaryOp op a p =>
    cases op with
    | Not =>
      have e : (oM (D.t c a) fun f => some (tNot f)) = some f := e
      obtain ⟨fa, h1, e⟩ := oM_some e
      cases e
      exact t_not (K.t h h1)
    | _ => exact gen e
  | BoolOp op xs p => exact t_w (K.w h e)
  | Compare a ops es p =>
    have e : (oM (dCmps D c a ops es) fun f => some (tBl f)) = some f := e
    obtain ⟨fa, h1, e⟩ := oM_some e
    cases e
    exact (dCmps_ok K h h1).2
  | _ => exact gen e
theorem dW1_ok (K : DenOk D) (h : COk X G k c) {op : BoolOp} {xs : List Expr} {f : EvT} {pos : Pos} (e : dW1 D c op xs = some f) : SW X G (.BoolOp op xs pos) f := by
  match xs, e with
  | [], e => cases e
  | [a], e =>
    cases op with
    | And => exact w_and1 (K.t h e)
    | Or => exact w_or1 (K.t h e)
  | a :: b :: r, e =>
    have e : (oM (D.t c a) fun fa => oM (D.w c op (b :: r)) fun fb => match op with
      | .And => some (tAnd fa fb)
      | .Or => some (tOr fa fb)) = some f := e
    obtain ⟨fa, h2, e⟩ := oM_some e
    obtain ⟨fb, h3, e⟩ := oM_some e
    cases op with
    | And => cases e; exact w_and (K.t h h2) (K.w h h3)
    | Or => cases e; exact w_or (K.t h h2) (K.w h h3)
theorem dL1_ok (K : DenOk D) (h : COk X G k c) {x : Expr} {f : EvQ} (e : dL1 D c x = some f) : SL X G x f := by
  cases x with
  | List es p =>
    have e : oB (Nat.ble es.length 10000) (oB (noStB es) (D.a c es)) = some f := e
    obtain ⟨hl, e⟩ := oB_some e
    obtain ⟨hn, e⟩ := oB_some e
    exact l_lst (Nat.le_of_ble_eq_true hl) (K.a h e)
  | ListComp el gens sc p => exact dLc_ok K h e
  | Call fn args kws pos =>
    cases fn with
    | Name nm np =>
      match args, kws, e with
      | [], _, e => cases e
      | [a], _ :: _, e => cases e
      | [a], [], e =>
        have ea : oB (glb c nm) (oB (unSt a) (match isN nm nList with
          | true => match isL a with
            | true => D.l c a
            | false => oM (D.e c a) fun fa => some (qKeys fa)
          | false => match isN nm nSorted with
            | true => dSrt D c a
            | false => none)) = some f := e
        clear e
        obtain ⟨g, eb⟩ := oB_some ea
        obtain ⟨hu, ec⟩ := oB_some eb
        clear ea eb
        cases hl : isN nm nList with
        | true =>
          simp only [hl] at ec
          have B := bn_ok h bt_list hl g
          have en := strList hl
          clear hl
          subst en
          cases hL : isL a with
          | true =>
            simp only [hL] at ec
            exact l_listOf h.O B (unSt_ok hu) (q_of_l (K.l h ec))
          | false =>
            simp only [hL] at ec
            obtain ⟨fa, h1, ed⟩ := oM_some ec
            cases ed
            exact l_listAny h.O B (unSt_ok hu) (K.e h h1)
        | false =>
          simp only [hl] at ec
          cases hs : isN nm nSorted with
          | false => simp only [hs] at ec; cases ec
          | true =>
            simp only [hs] at ec
            have B := bn_ok h bt_sorted hs g
            have en := strSorted hs
            clear hs hl
            subst en
            have gen : (oM (dQl D c a) fun s => some (qSorted s)) = some f → SL X G (.Call (.Name "sorted" np) [a] [] pos) f := fun e => by
              obtain ⟨s, h1, e⟩ := oM_some e
              cases e
              exact l_sorted h.O B (unSt_ok hu) (dQl_ok K h h1)
            unfold dSrt at ec
            split at ec
            · split at ec
              · rename_i h2
                obtain ⟨g2, e1⟩ := oB_some ec
                obtain ⟨hb, e2⟩ := oB_some e1
                obtain ⟨fb, h3, e3⟩ := oM_some e2
                cases e3
                have B2 := bn_ok h bt_set h2 g2
                have en := strSet h2
                clear ec e1 e2 h2 gen
                subst en
                exact l_sortedSet h.O B B2 (unSt_ok hb) (K.e h h3)
              · exact gen ec
            · exact gen ec
      | _ :: _ :: _, _, e => cases e
    | _ => cases e
  | _ => cases e
theorem dA1_ok (K : DenOk D) (h : COk X G k c) {xs : List Expr} {f : EvQ} (e : dA1 D c xs = some f) : SA X G xs f := by
  cases xs with
  | nil => cases e; exact sa_nil
  | cons x xs =>
    have e : oB (unSt x) (oM (D.e c x) fun f => oM (D.a c xs) fun s => some (qCons f s)) = some f := e
    obtain ⟨hu, e⟩ := oB_some e
    obtain ⟨fx, h1, e⟩ := oM_some e
    obtain ⟨s, h2, e⟩ := oM_some e
    cases e
    exact sa_cons (unSt_ok hu) (K.e h h1) (K.a h h2)
theorem dAs1_ok (K : DenOk D) (h : COk X G k c) {xs : List Expr} {f : EvQ} (e : dAs1 D c xs = some f) : SAS X G xs f := by
  cases xs with
  | nil => cases e; exact sas_nil
  | cons x xs =>
    have gen : unSt x = true → (oM (D.e c x) fun f => oM (D.as c xs) fun s => some (qCons f s)) = some f → SAS X G (x :: xs) f := fun hu e => by
      obtain ⟨fx, h1, e⟩ := oM_some e
      obtain ⟨s, h2, e⟩ := oM_some e
      cases e
      exact sas_cons (unSt_ok hu) (K.e h h1) (K.as h h2)
    cases x with
    | Starred a p =>
      have e : (oM (dQ D c a) fun q => oM (D.as c xs) fun s => some (qStar q s)) = some f := e
      obtain ⟨q, h1, e⟩ := oM_some e
      obtain ⟨s, h2, e⟩ := oM_some e
      cases e
      exact sas_star h.O (dQ_ok K h h1) (K.as h h2)
    | _ => exact gen rfl e
theorem dTs1_ok (K : DenOk D) (h : COk X G k c) {xs : List Expr} {f : EvT} (e : dTs1 D c xs = some f) : STs X G xs f := by
  match xs, e with
  | [], e => cases e; exact sts_nil
  | [x], e => exact sts_one (K.t h e)
  | _ :: _ :: _, e => cases e
theorem locB_ok (h : COk X G k c) {x : Str} (e : locB c x = true) : L2.Loc X.env.scope x ∧ (X.fn x = true ∨ X.env.scope.names.lookup x = some .local) := by
  unfold locB at e
  rw [lkS_eq] at e
  unfold L2.Loc
  rw [h.sc]
  split at e
  · exact ⟨.inl (by assumption), .inr (by assumption)⟩
  · exact ⟨.inr (by assumption), .inl (by rw [h.fnb]; exact e)⟩
  · cases e
theorem dG1_ok (K : DenOk D) (h : COk X G k c) {L : List Nat} {x : Expr} {f : EvG} {W0 : WX} (tk : Takes X W0) (e : dG1 D c L x = some f) : SG X G L x f := by
  cases x with
  | Name nm p =>
    have e : (oM (ixS nm c.N 0) fun i => oB (locB c nm) (oB (L.elem i) (some (gNm (sOf i))))) = some f := e
    obtain ⟨i, h1, e⟩ := oM_some e
    obtain ⟨h2, e⟩ := oB_some e
    obtain ⟨h3, e⟩ := oB_some e
    cases e
    obtain ⟨l1, l2⟩ := locB_ok h h2
    exact g_nm h.O (by rw [h.N]; exact ixS_at h1) l1 l2 (List.elem_iff.mp h3)
  | Tuple es j p =>
    have e : oB (noStB es) (oM (D.gs c L es) fun gs => oB (natEq gs.length es.length) (some (gTup gs))) = some f := e
    obtain ⟨hn, e⟩ := oB_some e
    obtain ⟨gs, h1, e⟩ := oM_some e
    obtain ⟨hl, e⟩ := oB_some e
    cases e
    exact g_tup h.O (natEq_ok hl) (noStB_ok hn) (K.gs h tk h1)
  | Attribute o nm p =>
    have e : (oM (lkS nm c.ats) fun k => oM (D.e c o) fun f => some (gAttr c.fo f k)) = some f := e
    obtain ⟨i, h1, e⟩ := oM_some e
    obtain ⟨fo, h2, e⟩ := oM_some e
    cases e
    rw [lkS_eq] at h1
    exact g_attr h.O tk h.P.fo (h.P.att nm i h1) (K.e h h2)
  | Subscript o i p =>
    have e : oB (plainIx i) (oM (D.e c o) fun f => oM (D.e c i) fun g => some (FP.gSub f g)) = some f := e
    obtain ⟨hp, e⟩ := oB_some e
    obtain ⟨fo, h1, e⟩ := oM_some e
    obtain ⟨fi, h2, e⟩ := oM_some e
    cases e
    exact g_sub h.O tk hp (K.e h h1) (K.e h h2)
  | _ => cases e
theorem dGs1_ok (K : DenOk D) (h : COk X G k c) {L : List Nat} {xs : List Expr} {f : List EvG} {W0 : WX} (tk : Takes X W0) (e : dGs1 D c L xs = some f) : SGs X G L xs f := by
  cases xs with
  | nil => cases e; exact gs_nil
  | cons x xs =>
    have e : oB (unSt x) (oM (D.g c L x) fun g => oM (D.gs c L xs) fun gs => some (g :: gs)) = some f := e
    obtain ⟨hu, e⟩ := oB_some e
    obtain ⟨g, h1, e⟩ := oM_some e
    obtain ⟨gs, h2, e⟩ := oM_some e
    cases e
    exact gs_cons (unSt_ok hu) (K.g h tk h1) (K.gs h tk h2)
end
theorem den_ok : ∀ n, DenOk (den n)
  | 0 => ⟨(fun _ e => nomatch e), (fun _ e => nomatch e), (fun _ e => nomatch e), (fun _ e => nomatch e), (fun _ e => nomatch e), (fun _ e => nomatch e), (fun _ e => nomatch e), (fun _ _ e => nomatch e), (fun _ _ e => nomatch e)⟩
  | n + 1 => ⟨fun h e => dE1_ok (den_ok n) h e, fun h e => dT1_ok (den_ok n) h e, fun h e => dW1_ok (den_ok n) h e, fun h e => dL1_ok (den_ok n) h e, fun h e => dA1_ok (den_ok n) h e, fun h e => dAs1_ok (den_ok n) h e, fun h e => dTs1_ok (den_ok n) h e, fun h tk e => dG1_ok (den_ok n) h tk e, fun h tk e => dGs1_ok (den_ok n) h tk e⟩
end FP
end
section
namespace FP
open PySem PySem.Spec PyProof.Rows L2 PySem.SeqAt

structure DenS where
  s : Cc → Stmt → Option EvS
  ss : Cc → List Stmt → Option (List EvS)
/-- the names to which two or three values go at once -/
def swNames (sc : Scope) (ts : List Expr) : List Str :=
  ts.filterMap fun
    | .Name id pos => if sc.names.lookup id == some .local && pos.line == (ts.head?.map (·.pos.line)).getD 0 then some id else none
    | _ => none
def isStarred : Expr → Bool
  | .Starred _ _ => true
  | _ => false
/-- stores one by one -/
def nstB (c : Cc) (tg e : Expr) : Bool := match tg with
  | .Tuple ts _ _ => match e with
    | .Tuple vs _ _ => (!(ts.length == 2 || ts.length == 3) || vs.length != ts.length) || (swNames c.sc ts).length != ts.length
    | _ => true
  | .List _ _ => false
  | _ => true
def swB (c : Cc) (y : Str) (py : Pos) (e : Expr) (scope : Scope) : Bool := c.sc.names.lookup y == some .local && py.line == e.pos.line && !(scope.names.any fun (n, k) => n == y && (k == .local || k == .cell))
def nswB (c : Cc) (tg e : Expr) : Bool := match tg with
  | .Name y py => match e with
    | .ListComp _ _ s _ => !swB c y py e s
    | .SetComp _ _ s _ => !swB c y py e s
    | .DictComp _ _ _ s _ => !swB c y py e s
    | _ => true
  | _ => true
section
variable (D : Den) (S : DenS) (c : Cc)
def dAsg (tg e : Expr) : Option EvS := oB (unSt tg) (oB (nstB c tg e) (oB (nswB c tg e) (oM (D.g c (List.range c.N.length) tg) fun g => oM (D.e c e) fun f => some (sAsg g f))))
def locLB (x : Str) : Bool := match lkS x c.sc.names with
  | some .local => true
  | _ => false
/-- a name takes a comprehension's list or dict -/
def dSet (y : Str) (py : Pos) (e : Expr) : Option EvS := match e with
  | .ListComp elt gens scope _ => match swB c y py e scope with
    | true => oM (ixS y c.N 0) fun j => oB (locLB c y) (oM (dLc D c elt gens scope) fun s => some (sAsg (gNm (sOf j)) (eQ qList s)))
    | false => dAsg D c (.Name y py) e
  | .DictComp kx vx gens scope _ => match swB c y py e scope with
    | true => oM (ixS y c.N 0) fun j => oB (locLB c y) (oM (dDc D c kx vx gens scope) fun s => some (sAsg (gNm (sOf j)) s))
    | false => dAsg D c (.Name y py) e
  | e => dAsg D c (.Name y py) e
def slotsOf : List Expr → Option (List Nat)
  | [] => some []
  | x :: xs => match x with
    | .Name nm _ => oM (ixS nm c.N 0) fun i => oM (slotsOf xs) fun is => some (i :: is)
    | _ => none
def distinct (l : List Nat) : Bool := match l with
  | [i, j] => !natEq i j
  | [i, j, k] => !natEq i j && !natEq i k && !natEq j k
  | _ => false
/-- two or three at once -/
def dPar (ts vs : List Expr) : Option EvS := oB (noStB vs) (oB (natEq vs.length ts.length) (oB (natEq (swNames c.sc ts).length ts.length) (oB (!vs.all (foldedForSure 8) && !vs.all (constantsAlone 8)) (oM (slotsOf c ts) fun is => oB (distinct is) (oM (D.a c vs) fun s => some (sPar (sets is) s))))))
def dPar2 (ts : List Expr) (e : Expr) : Option EvS := match e with
  | .Tuple vs _ _ => dPar D c ts vs
  | _ => none
def dHs : List ExceptHandler → Option (List (Nat × Option Set × EvS))
  | [] => some []
  | hd :: hs => match hd with
    | .ExceptHandler (some (.Name x _)) none [.Return (some (.Constant (.str s) _ _)) _] _ => oB (glb c x) (oM (lkS x c.xcs) fun i => oM (dHs hs) fun r => some ((i, none, sSeq [sRet (eCst (.str s.cps.toList))]) :: r))
    | _ => none
def dS1 (st : Stmt) : Option EvS := match st with
  | .Assign tgs e _ => match tgs with
    | [tg] => match tg with
      | .Name y py => dSet D c y py e
      | .Tuple ts k p => match nstB c (.Tuple ts k p) e with
        | true => dAsg D c (.Tuple ts k p) e
        | false => dPar2 D c ts e
      | tg => dAsg D c tg e
    | _ => none
  | .Expr e _ => oB (plainVal e) (oM (D.e c e) fun f => some (sEx f))
  | .Return e _ => match e with
    | some e => oM (D.e c e) fun f => some (sRet f)
    | none => some sRetN
  | .If t a b _ => oM (D.t c t) fun ft => oM (S.ss c a) fun fa => oM (S.ss c b) fun fb => some (sIf ft (sSeq fa) (sSeq fb))
  | .While t a b _ => match b with
    | [] => oM (D.t c t) fun ft => oM (S.ss c a) fun fa => some (sWhl ft (sSeq fa))
    | _ => none
  | .For tg it a b _ => match b with
    | [] => oB (plainIt it) (oM (dI D c tg it) fun fi => oM (dGi D c (List.range c.N.length) fi.1 tg) fun fg => oM (S.ss c a) fun fa => some (sFor fi.2 fg (sSeq fa)))
    | _ => none
  | .Pass _ => some sPass
  | .Break _ => some sBrk
  | .Continue _ => some sCnt
  | .Raise x cz _ => match cz with
    | none => match x with
      | some (.Call (.Name nm _) [] [] _) => oB (glb c nm) (oM (lkS nm c.xcs) fun i => some (sRaise i))
      | _ => none
    | _ => none
  | .Try a hs o f _ => match o with
    | [] => match f with
      | [] => match hs with
        | [] => none
        | h0 :: hs => oM (S.ss c a) fun fa => oM (dHs c (h0 :: hs)) fun r => some (sTry (sSeq fa) r)
      | _ => none
    | _ => none
  | _ => none
def dSs1 (sts : List Stmt) : Option (List EvS) := match sts with
  | [] => some []
  | st :: sts => oM (S.s c st) fun f => oM (S.ss c sts) fun fs => some (f :: fs)
end
def denS : Nat → DenS
  | 0 => ⟨fun _ _ => none, fun _ _ => none⟩
  | n + 1 => ⟨dS1 (den n) (denS n), dSs1 (denS n)⟩

/-- where statements stand -/
structure SOk (X : Cx) (G : Gd) (k : Nat) (c : Cc) : Prop extends COk X G k c where
  own : PassesOwn (model X.prog X.w) X.A X.env X.xe
  stk : X.stack = X.env :: X.outer
  frm : X.env.frame = some X.env.locals
structure DenSOk (S : DenS) : Prop where
  s : ∀ {X G k c st f}, SOk X G k c → S.s c st = some f → SS X G st f
  ss : ∀ {X G k c sts fs}, SOk X G k c → S.ss c sts = some fs → SSs X G sts (sSeq fs)
section
variable {X : Cx} {G : Gd} {k : Nat} {c : Cc} {D : Den} {S : DenS}
theorem COk.bk (h : COk X G k c) : X.env.blockKind = .function := by
  unfold Env.blockKind
  rw [h.sc, h.kd]; rfl
theorem swName (h : COk X G k c) {y : Str} {py : Pos} {e : Expr} {scope : Scope} {l : Nat} (he : (∃ a b p, e = .ListComp a b scope p) ∨ (∃ a b p, e = .SetComp a b scope p) ∨ ∃ a b d p, e = .DictComp a b d scope p) :
    swapsWith e (some (.Name y py)) l X.env = pure (swB c y py e scope) := by
  have hb := h.bk
  have hk : X.env.kindOf y = c.sc.names.lookup y := by unfold Env.kindOf; rw [h.sc]
  rcases he with ⟨a, b, p, rfl⟩ | ⟨a, b, p, rfl⟩ | ⟨a, b, d, p, rfl⟩
  all_goals
    unfold swapsWith swB
    simp only [hb, hk]
    rfl
theorem nsw_ok (h : COk X G k c) {tg e : Expr} (q : nswB c tg e = true) (l : Nat) : swapsWithSole [tg] e l X.env = pure false := by
  show swapsWith e (some tg) l X.env = pure false
  have other : (∀ x p, tg ≠ .Name x p) → swapsWith e (some tg) l X.env = pure false := fun z => swaps_tg z
  cases tg with
  | Name y py =>
    cases e with
    | ListComp a b s p => rw [swName h (.inl ⟨a, b, p, rfl⟩), neg_ok q]
    | SetComp a b s p => rw [swName h (.inr (.inl ⟨a, b, p, rfl⟩)), neg_ok q]
    | DictComp a b d s p => rw [swName h (.inr (.inr ⟨a, b, d, p, rfl⟩)), neg_ok q]
    | _ => exact swaps_of rfl
  | _ => exact other fun x p z => nomatch z
theorem sw_form {ts vs : List Expr} {kt k2 : Nat} {pt p2 : Pos} (env : PySem.Env) (hb : env.blockKind = .function) : swappedStores [.Tuple ts kt pt] (.Tuple vs k2 p2) env =
    if (!(ts.length == 2 || ts.length == 3) || vs.length != ts.length || ScopeKind.function != ScopeKind.function) = true then pure none
    else if vs.any isStarred = true then pure none
    else if ((swNames env.scope ts).length != ts.length || (swNames env.scope ts).eraseDups.length != (swNames env.scope ts).length) = true then pure none
    else if vs.all (foldedForSure 8) = true then pure none
    else if vs.all (constantsAlone 8) = true then (do unsupported "assign.tuple-of-constant-expressions:order-of-the-stores"; pure (some (swNames env.scope ts)))
    else pure (some (swNames env.scope ts)) := by
  unfold swappedStores
  simp only [hb]
  rfl
theorem nst_ok (h : COk X G k c) {tg e : Expr} (q : nstB c tg e = true) : swappedStores [tg] e X.env = pure none := by
  cases tg with
  | Tuple ts kt pt =>
    cases e with
    | Tuple vs k2 p2 =>
      have q : ((!(ts.length == 2 || ts.length == 3) || vs.length != ts.length) || (swNames c.sc ts).length != ts.length) = true := q
      rw [sw_form X.env h.bk, h.sc]
      rw [Bool.or_eq_true] at q
      rcases q with q | q
      · rw [if_pos (by rw [q]; rfl)]
      · by_cases a : (!(ts.length == 2 || ts.length == 3) || vs.length != ts.length || ScopeKind.function != ScopeKind.function) = true
        · rw [if_pos a]
        · rw [if_neg a]
          by_cases b : vs.any isStarred = true
          · rw [if_pos b]
          · rw [if_neg b, if_pos (by rw [q]; rfl)]
    | _ => rfl
  | List _ _ => cases q
  | _ => rfl
theorem dAsg_ok (K : DenOk D) (h : COk X G k c) {tg e : Expr} {f : EvS} {pos : Pos} (q : dAsg D c tg e = some f) : SS X G (.Assign [tg] e pos) f := by
  obtain ⟨h1, q⟩ := oB_some q
  obtain ⟨h2, q⟩ := oB_some q
  obtain ⟨h3, q⟩ := oB_some q
  obtain ⟨g, h4, q⟩ := oM_some q
  obtain ⟨fe, h5, q⟩ := oM_some q
  cases q
  exact s_asgW h.O (fun W0 tk => K.g h tk h4) (K.e h h5) (unSt_ok h1) (nsw_ok h h3 _) (nst_ok h h2)
theorem locLB_ok (h : COk X G k c) {x : Str} (e : locLB c x = true) : X.env.scope.names.lookup x = some .local := by
  unfold locLB at e
  rw [lkS_eq] at e
  rw [h.sc]
  split at e
  · assumption
  · cases e
/-- a list comprehension that a name takes -/
theorem dLc_set (K : DenOk D) (h : COk X G k c) {elt : Expr} {gens : List Comprehension} {scope : Scope} {s : EvQ} {pos spos py : Pos} {j : Nat} {y : Str} (hy : X.N[j]? = some y) (hyl : X.env.scope.names.lookup y = some .local)
    (hsw : swapsWith (.ListComp elt gens scope pos) (some (.Name y py)) spos.line X.env = pure true) (e : dLc D c elt gens scope = some s) : SS X G (.Assign [.Name y py] (.ListComp elt gens scope pos) spos) (sAsg (gNm (sOf j)) (eQ qList s)) := by
  match gens, e with
  | [], e => cases e
  | [g1], e =>
    have e : oB (ibeq g1.is_async 0) (oB (blkC c.N c.sc scope (ownOf c.N scope.names)) (oB (fnKd scope) (oB (plainIt g1.iter) (oM (dI D c g1.target g1.iter) fun fi =>
      oM (dGi D (c.blk scope) (slots (ownOf c.N scope.names)) fi.1 g1.target) fun fg => oM (D.ts (c.blk scope) g1.ifs) fun ft => oM (D.e (c.blk scope) elt) fun fe =>
      some (qComp (sets (slots (ownOf c.N scope.names))) fi.2 fg ft (cElt fe)))))) = some s := e
    obtain ⟨h0, e⟩ := oB_some e
    obtain ⟨hb, e⟩ := oB_some e
    obtain ⟨hk, e⟩ := oB_some e
    obtain ⟨hp, e⟩ := oB_some e
    obtain ⟨fi, h1, e⟩ := oM_some e
    obtain ⟨fg, h2, e⟩ := oM_some e
    obtain ⟨ft, h3, e⟩ := oM_some e
    obtain ⟨fe, h4, e⟩ := oM_some e
    cases e
    obtain ⟨tg, it, ifs, rfl⟩ := async0 h0
    rw [sets_eq, slots_eq]
    rw [slots_eq] at h2
    exact s_setLc h.O hy hyl hsw (blkC_ok h hb) (dI_ok K h h1) (fun s H C cl fp => dGi_ok K (h.blk (fnKd_ok hk)) takes0 h2) (fun s H C cl fp => K.ts (h.blk (fnKd_ok hk)) h3) (fun s H C cl fp => K.e (h.blk (fnKd_ok hk)) h4) hp
  | [g1, g2], e =>
    have e : oB (ibeq g1.is_async 0) (oB (ibeq g2.is_async 0) (oB (blkC c.N c.sc scope (ownOf c.N scope.names)) (oB (fnKd scope) (oB (plainIt g1.iter) (oB (plainIt g2.iter) (oB ((tgIx c 5 g2.target).all fun k => (slots (ownOf c.N scope.names)).elem k) (oM (dI D c g1.target g1.iter) fun fi =>
      oM (dGi D (c.blk scope) (slots (ownOf c.N scope.names)) fi.1 g1.target) fun fg => oM (D.ts (c.blk scope) g1.ifs) fun ft =>
      oM (D.e (c.blk scope) g2.iter) fun fi2 => oM (D.g (c.blk scope) (tgIx c 5 g2.target) g2.target) fun fg2 => oM (D.ts (c.blk scope) g2.ifs) fun ft2 => oM (D.e (c.blk scope) elt) fun fe =>
      some (qComp (sets (slots (ownOf c.N scope.names))) fi.2 fg ft (cFor (sets (tgIx c 5 g2.target)) (iSeq fi2) fg2 ft2 (cEltF fe)))))))))) = some s := e
    obtain ⟨h0, e⟩ := oB_some e
    obtain ⟨h00, e⟩ := oB_some e
    obtain ⟨hb, e⟩ := oB_some e
    obtain ⟨hk, e⟩ := oB_some e
    obtain ⟨hp, e⟩ := oB_some e
    obtain ⟨hp2, e⟩ := oB_some e
    obtain ⟨hs, e⟩ := oB_some e
    obtain ⟨fi, h1, e⟩ := oM_some e
    obtain ⟨fg, h2, e⟩ := oM_some e
    obtain ⟨ft, h3, e⟩ := oM_some e
    obtain ⟨fi2, h4, e⟩ := oM_some e
    obtain ⟨fg2, h5, e⟩ := oM_some e
    obtain ⟨ft2, h6, e⟩ := oM_some e
    obtain ⟨fe, h7, e⟩ := oM_some e
    cases e
    obtain ⟨tg, it, ifs, rfl⟩ := async0 h0
    obtain ⟨tg2, it2, ifs2, rfl⟩ := async0 h00
    rw [sets_eq, slots_eq, sets_eq]
    rw [slots_eq] at h2 hs
    exact s_setLc2 h.O hy hyl hsw (blkC_ok h hb) (blk_sub hs) (dI_ok K h h1) (fun s H C cl fp => dGi_ok K (h.blk (fnKd_ok hk)) takes0 h2) (fun s H C cl fp => K.ts (h.blk (fnKd_ok hk)) h3)
      (fun s H C cl fp => si_seqF h.O.blk (K.e (h.blk (fnKd_ok hk)) h4)) (fun s H C cl fp => K.g (h.blk (fnKd_ok hk)) takes0 h5) (fun s H C cl fp => K.ts (h.blk (fnKd_ok hk)) h6) (fun s H C cl fp => K.e (h.blk (fnKd_ok hk)) h7) hp hp2
  | _ :: _ :: _ :: _, e => cases e
theorem dDc_set (K : DenOk D) (h : COk X G k c) {kx vx : Expr} {gens : List Comprehension} {scope : Scope} {s : EvE} {pos spos py : Pos} {j : Nat} {y : Str} (hy : X.N[j]? = some y) (hyl : X.env.scope.names.lookup y = some .local)
    (hsw : swapsWith (.DictComp kx vx gens scope pos) (some (.Name y py)) spos.line X.env = pure true) (e : dDc D c kx vx gens scope = some s) : SS X G (.Assign [.Name y py] (.DictComp kx vx gens scope pos) spos) (sAsg (gNm (sOf j)) s) := by
  match gens, e with
  | [], e => cases e
  | [g1], e =>
    have e : oB (ibeq g1.is_async 0) (oB (blkC c.N c.sc scope (ownOf c.N scope.names)) (oB (fnKd scope) (oB (plainIt g1.iter) (oM (dI D c g1.target g1.iter) fun fi =>
      oM (dGi D (c.blk scope) (slots (ownOf c.N scope.names)) fi.1 g1.target) fun fg => oM (D.ts (c.blk scope) g1.ifs) fun ft => oM (D.e (c.blk scope) kx) fun fk => oM (D.e (c.blk scope) vx) fun fv =>
      some (eDComp (sets (slots (ownOf c.N scope.names))) fi.2 fg ft (dElt fk fv)))))) = some s := e
    obtain ⟨h0, e⟩ := oB_some e
    obtain ⟨hb, e⟩ := oB_some e
    obtain ⟨hk, e⟩ := oB_some e
    obtain ⟨hp, e⟩ := oB_some e
    obtain ⟨fi, h1, e⟩ := oM_some e
    obtain ⟨fg, h2, e⟩ := oM_some e
    obtain ⟨ft, h3, e⟩ := oM_some e
    obtain ⟨fk, h4, e⟩ := oM_some e
    obtain ⟨fv, h5, e⟩ := oM_some e
    cases e
    obtain ⟨tg, it, ifs, rfl⟩ := async0 h0
    rw [sets_eq, slots_eq]
    rw [slots_eq] at h2
    exact s_setDc h.O hy hyl hsw (blkC_ok h hb) (dI_ok K h h1) (fun s H C cl fp => dGi_ok K (h.blk (fnKd_ok hk)) takes0 h2) (fun s H C cl fp => K.ts (h.blk (fnKd_ok hk)) h3) (fun s H C cl fp => K.e (h.blk (fnKd_ok hk)) h4) (fun s H C cl fp => K.e (h.blk (fnKd_ok hk)) h5) hp
  | _ :: _ :: _, e => cases e
theorem dSet_ok (K : DenOk D) (h : COk X G k c) {y : Str} {py pos : Pos} {e : Expr} {f : EvS} (q : dSet D c y py e = some f) : SS X G (.Assign [.Name y py] e pos) f := by
  cases e with
  | ListComp elt gens scope p =>
    have q : (match swB c y py (.ListComp elt gens scope p) scope with
      | true => oM (ixS y c.N 0) fun j => oB (locLB c y) (oM (dLc D c elt gens scope) fun s => some (sAsg (gNm (sOf j)) (eQ qList s)))
      | false => dAsg D c (.Name y py) (.ListComp elt gens scope p)) = some f := q
    cases hs : swB c y py (.ListComp elt gens scope p) scope with
    | false => rw [hs] at q; exact dAsg_ok K h q
    | true =>
      rw [hs] at q
      obtain ⟨j, h1, q⟩ := oM_some q
      obtain ⟨h2, q⟩ := oB_some q
      obtain ⟨s, h3, q⟩ := oM_some q
      cases q
      exact dLc_set K h (by rw [h.N]; exact ixS_at h1) (locLB_ok h h2) (by rw [swName h (.inl ⟨elt, gens, p, rfl⟩), hs]) h3
  | DictComp kx vx gens scope p =>
    have q : (match swB c y py (.DictComp kx vx gens scope p) scope with
      | true => oM (ixS y c.N 0) fun j => oB (locLB c y) (oM (dDc D c kx vx gens scope) fun s => some (sAsg (gNm (sOf j)) s))
      | false => dAsg D c (.Name y py) (.DictComp kx vx gens scope p)) = some f := q
    cases hs : swB c y py (.DictComp kx vx gens scope p) scope with
    | false => rw [hs] at q; exact dAsg_ok K h q
    | true =>
      rw [hs] at q
      obtain ⟨j, h1, q⟩ := oM_some q
      obtain ⟨h2, q⟩ := oB_some q
      obtain ⟨s, h3, q⟩ := oM_some q
      cases q
      exact dDc_set K h (by rw [h.N]; exact ixS_at h1) (locLB_ok h h2) (by rw [swName h (.inr (.inr ⟨kx, vx, gens, p, rfl⟩)), hs]) h3
  | _ => exact dAsg_ok K h q
theorem slotsOf_ok (h : COk X G k c) : ∀ {ts : List Expr} {is : List Nat}, slotsOf c ts = some is → ∃ xs : List (Str × Pos), ts = xs.map (fun x => .Name x.1 x.2) ∧ is.length = xs.length ∧ ∀ (n : Nat) (i : Nat) (x : Str × Pos), is[n]? = some i → xs[n]? = some x → X.N[i]? = some x.1
  | [], is, e => by cases e; exact ⟨[], rfl, rfl, fun n i x h => by simp at h⟩
  | t :: ts, is, e => by
    cases t with
    | Name nm p =>
      have e : (oM (ixS nm c.N 0) fun i => oM (slotsOf c ts) fun is => some (i :: is)) = some is := e
      obtain ⟨i, h1, e⟩ := oM_some e
      obtain ⟨js, h2, e⟩ := oM_some e
      cases e
      obtain ⟨xs, e1, e2, e3⟩ := slotsOf_ok h h2
      refine ⟨(nm, p) :: xs, by rw [e1]; rfl, by simp [e2], fun n j x a b => ?_⟩
      cases n with
      | zero => cases a; cases b; rw [h.N]; exact ixS_at h1
      | succ n => exact e3 n j x a b
    | _ => cases e
theorem swAll {sc : Scope} {l : Nat} : ∀ {xs : List (Str × Pos)}, ((xs.map fun x => Expr.Name x.1 x.2).filterMap fun
    | .Name id pos => if sc.names.lookup id == some .local && pos.line == l then some id else none
    | _ => none).length = xs.length → (∀ x ∈ xs, sc.names.lookup x.1 = some .local) ∧ ((xs.map fun x => Expr.Name x.1 x.2).filterMap fun
    | .Name id pos => if sc.names.lookup id == some .local && pos.line == l then some id else none
    | _ => none) = xs.map (·.1)
  | [], _ => ⟨(fun x m => nomatch m), rfl⟩
  | x :: xs, e => by
    have le : ((xs.map fun x => Expr.Name x.1 x.2).filterMap fun
      | .Name id pos => if sc.names.lookup id == some .local && pos.line == l then some id else none
      | _ => none).length ≤ xs.length := by
      have := List.length_filterMap_le (fun
        | .Name id pos => if sc.names.lookup id == some .local && pos.line == l then some id else none
        | _ => none : Expr → Option Str) (xs.map fun x => Expr.Name x.1 x.2)
      simpa using this
    rw [List.map_cons, List.filterMap_cons] at e
    by_cases q : (sc.names.lookup x.1 == some .local && x.2.line == l) = true
    · simp only [q, if_true, List.length_cons] at e
      obtain ⟨h1, h2⟩ := swAll (sc := sc) (l := l) (xs := xs) (by omega)
      have ql : sc.names.lookup x.1 = some .local := by
        rw [Bool.and_eq_true] at q
        exact beq_iff_eq.mp q.1
      refine ⟨fun y m => ?_, ?_⟩
      · rcases List.mem_cons.mp m with rfl | m
        · exact ql
        · exact h1 y m
      · rw [List.map_cons, List.filterMap_cons]
        simp only [q, if_true, h2, List.map_cons]
    · simp only [q] at e
      simp only [List.length_cons] at e
      exfalso
      revert e
      simp only [Bool.false_eq_true, if_false]
      intro e
      omega
theorem isStarred_any {vs : List Expr} (h : noStB vs = true) : vs.any isStarred = false := by
  induction vs with
  | nil => rfl
  | cons v vs ih =>
    obtain ⟨h1, h2⟩ := noStB_cons h
    rw [List.any_cons, ih h2]
    cases v <;> first | rfl | cases h1
theorem dPar_ok (K : DenOk D) (h : COk X G k c) {ts vs : List Expr} {f : EvS} {kt k2 : Nat} {pt p2 pos : Pos} (q : dPar D c ts vs = some f) : SS X G (.Assign [.Tuple ts kt pt] (.Tuple vs k2 p2) pos) f := by
  obtain ⟨h1, q⟩ := oB_some q
  obtain ⟨h2, q⟩ := oB_some q
  obtain ⟨h3, q⟩ := oB_some q
  obtain ⟨h4, q⟩ := oB_some q
  obtain ⟨is, h5, q⟩ := oM_some q
  obtain ⟨h6, q⟩ := oB_some q
  obtain ⟨s, h7, q⟩ := oM_some q
  cases q
  obtain ⟨xs, e1, e2, e3⟩ := slotsOf_ok h h5
  have hl := natEq_ok h2
  have hn := natEq_ok h3
  rw [Bool.and_eq_true] at h4
  have c1 := neg_ok h4.1
  have c2 := neg_ok h4.2
  have hts : ts.length = xs.length := by rw [e1, List.length_map]
  have sw : (swNames c.sc ts).length = xs.length := by rw [hn, hts]
  have all : (∀ x ∈ xs, c.sc.names.lookup x.1 = some .local) ∧ swNames c.sc ts = xs.map (·.1) := by
    unfold swNames at sw ⊢
    subst e1
    exact swAll sw
  have form : ∀ (nd : (xs.map (·.1)).eraseDups.length = (xs.map (·.1)).length), (ts.length == 2 || ts.length == 3) = true → swappedStores [.Tuple ts kt pt] (.Tuple vs k2 p2) X.env = pure (some (xs.map (·.1))) := fun nd h23 => by
    rw [sw_form X.env h.bk, h.sc, if_neg (by rw [h23, hl]; simp), if_neg (by rw [isStarred_any h1]; simp), all.2, if_neg (by rw [nd]; simp [hts]), if_neg (by rw [c1]; simp), if_neg (by rw [c2]; simp)]
  have loc : ∀ x ∈ xs, X.env.scope.names.lookup x.1 = some .local := fun x m => by rw [h.sc]; exact all.1 x m
  match is, h6, e2, e3 with
  | [i, j], h6, e2, e3 =>
    match xs, e1, e2, e3, loc, form with
    | [x, y], e1, _, e3, loc, form =>
      have hij : i ≠ j := fun z => by
        subst z
        have : (!natEq i i) = true := h6
        unfold natEq at this
        rw [Nat.beq_refl] at this
        cases this
      subst e1
      have n1 := e3 0 i x rfl rfl
      have n2 := e3 1 j y rfl rfl
      have hxy : x.1 ≠ y.1 := fun z => hij (by
        have := h.O.nd
        exact (List.getElem?_inj (List.getElem?_eq_some_iff.mp n1).1 this).mp (n1.trans (by rw [z]; exact n2.symm)))
      match vs, hl, h7, form with
      | [a, b], _, h7, form =>
        have b1 : (y.1 == x.1) = false := beq_eq_false_iff_ne.mpr hxy.symm
        refine s_par h.O n1 n2 hij (loc x (by simp)) (loc y (by simp)) (K.a h h7) (form ?_ rfl)
        simp [List.eraseDups_cons, List.filter, b1]
  | [i, j, l], h6, e2, e3 =>
    match xs, e1, e2, e3, loc, form with
    | [x, y, z], e1, _, e3, loc, form =>
      have h6 : (!natEq i j && !natEq i l && !natEq j l) = true := h6
      rw [Bool.and_eq_true, Bool.and_eq_true] at h6
      have ne : ∀ {a b : Nat}, (!natEq a b) = true → a ≠ b := fun q z => by
        subst z
        unfold natEq at q
        rw [Nat.beq_refl] at q
        cases q
      have hij := ne h6.1.1
      have hil := ne h6.1.2
      have hjl := ne h6.2
      subst e1
      have n1 := e3 0 i x rfl rfl
      have n2 := e3 1 j y rfl rfl
      have n3 := e3 2 l z rfl rfl
      have inj : ∀ {a b : Nat} {u v : Str}, X.N[a]? = some u → X.N[b]? = some v → a ≠ b → u ≠ v := fun {a b u v} p q r w => r (by
        have := h.O.nd
        exact (List.getElem?_inj (List.getElem?_eq_some_iff.mp p).1 this).mp (p.trans (by rw [w]; exact q.symm)))
      have b1 : (y.1 == x.1) = false := beq_eq_false_iff_ne.mpr (inj n2 n1 hij.symm)
      have b2 : (z.1 == x.1) = false := beq_eq_false_iff_ne.mpr (inj n3 n1 hil.symm)
      have b3 : (z.1 == y.1) = false := beq_eq_false_iff_ne.mpr (inj n3 n2 hjl.symm)
      match vs, hl, h7, form with
      | [a, b, d], _, h7, form =>
        refine s_par3 h.O n1 n2 n3 hij hil hjl (loc x (by simp)) (loc y (by simp)) (loc z (by simp)) (K.a h h7) (form ?_ rfl)
        simp [List.eraseDups_cons, List.filter, b1, b2, b3]
  | [], h6, _, _ => cases h6
  | [_], h6, _, _ => cases h6
  | _ :: _ :: _ :: _ :: _, h6, _, _ => cases h6
end
end FP
end
section
namespace FP
open PySem PySem.Spec PyProof.Rows L2 PySem.SeqAt

section
variable {X : Cx} {G : Gd} {k : Nat} {c : Cc} {D : Den} {S : DenS}
theorem COk.tr (h : COk X G k c) {pn : List (Addr × Obj)} {xe : Value → Shared → Prop} : COk (X.tr pn xe) G k c :=
  ⟨⟨h.O.prog, h.O.w, h.O.K, h.O.calm, h.O.nd, h.O.few, h.O.units⟩, h.room, h.N, h.sc, h.kd, h.fnb, h.P⟩
theorem SOk.tr (h : SOk X G k c) {pn : List (Addr × Obj)} {xe : Value → Shared → Prop} (hp : PassesOwn (model X.prog X.w) X.A X.env xe) : SOk (X.tr pn xe) G k c := { h.toCOk.tr with own := hp, stk := h.stk, frm := h.frm }
theorem xcAt (h : COk X G k c) {x : Str} {i : Nat} (g : glb c x = true) (e : lkS x c.xcs = some i) : XcAt X G x i := by
  rw [lkS_eq] at e
  obtain ⟨hd, C, bmB, B, newId, initId, F, q1, q2, q3, q4, q5, q6, _⟩ := h.P.xc x i e
  exact ⟨glb_ok h g, hd, C, bmB, B, newId, initId, F, q1, q2, q3, raises_own q5 q6, q4⟩
theorem dHs_ok (h : COk X G k c) : ∀ {hs : List ExceptHandler} {fs : List (Nat × Option Set × EvS)}, dHs c hs = some fs → Hds X G hs fs
  | [], fs, e => by cases e; exact .nil
  | hd :: hs, fs, e => by
    unfold dHs at e
    split at e
    · rename_i x np s j p1 p2 p3
      obtain ⟨g, e⟩ := oB_some e
      obtain ⟨i, h1, e⟩ := oM_some e
      obtain ⟨r, h2, e⟩ := oM_some e
      cases e
      rw [lkS_eq] at h1
      obtain ⟨hd, C, bmB, B, newId, initId, F, q1, q2, q3, q4, q5, q6, q7⟩ := h.P.xc x i h1
      exact .cons ⟨glb_ok h g, hd, .inl q2⟩ q7 (fun a pn => suite_ret (s_str)) (dHs_ok h h2)
    · cases e
theorem dS1_ok (K : DenOk D) (T : DenSOk S) (h : SOk X G k c) {st : Stmt} {f : EvS} (e : dS1 D S c st = some f) : SS X G st f := by
  have hc := h.toCOk
  cases st with
  | Assign tgs v p =>
    match tgs, e with
    | [], e => cases e
    | [tg], e =>
      cases tg with
      | Name y py => exact dSet_ok K hc e
      | Tuple ts kt pt =>
        have e : (match nstB c (.Tuple ts kt pt) v with
          | true => dAsg D c (.Tuple ts kt pt) v
          | false => dPar2 D c ts v) = some f := e
        cases hn : nstB c (.Tuple ts kt pt) v with
        | true => simp only [hn] at e; exact dAsg_ok K hc e
        | false =>
          simp only [hn] at e
          cases v with
          | Tuple vs k2 p2 => exact dPar_ok K hc e
          | _ => cases e
      | _ => exact dAsg_ok K hc e
    | _ :: _ :: _, e => cases e
  | Expr v p =>
    have e : oB (plainVal v) (oM (D.e c v) fun f => some (sEx f)) = some f := e
    obtain ⟨hp, e⟩ := oB_some e
    obtain ⟨fe, h1, e⟩ := oM_some e
    cases e
    exact s_ex (K.e hc h1) hp
  | Return v p =>
    cases v with
    | none => cases e; exact s_retN
    | some v =>
      have e : (oM (D.e c v) fun f => some (sRet f)) = some f := e
      obtain ⟨fe, h1, e⟩ := oM_some e
      cases e
      exact s_ret (K.e hc h1)
  | If t a b p =>
    have e : (oM (D.t c t) fun ft => oM (S.ss c a) fun fa => oM (S.ss c b) fun fb => some (sIf ft (sSeq fa) (sSeq fb))) = some f := e
    obtain ⟨ft, h1, e⟩ := oM_some e
    obtain ⟨fa, h2, e⟩ := oM_some e
    obtain ⟨fb, h3, e⟩ := oM_some e
    cases e
    exact s_if (K.t hc h1) (T.ss h h2) (T.ss h h3)
  | While t a b p =>
    cases b with
    | cons _ _ => cases e
    | nil =>
      have e : (oM (D.t c t) fun ft => oM (S.ss c a) fun fa => some (sWhl ft (sSeq fa))) = some f := e
      obtain ⟨ft, h1, e⟩ := oM_some e
      obtain ⟨fa, h2, e⟩ := oM_some e
      cases e
      exact s_whl h.own (K.t hc h1) (T.ss h h2)
  | For tg it a b p =>
    cases b with
    | cons _ _ => cases e
    | nil =>
      have e : oB (plainIt it) (oM (dI D c tg it) fun fi => oM (dGi D c (List.range c.N.length) fi.1 tg) fun fg => oM (S.ss c a) fun fa => some (sFor fi.2 fg (sSeq fa))) = some f := e
      obtain ⟨hp, e⟩ := oB_some e
      obtain ⟨fi, h1, e⟩ := oM_some e
      obtain ⟨fg, h2, e⟩ := oM_some e
      obtain ⟨fa, h3, e⟩ := oM_some e
      cases e
      exact fun W tk => s_for h.O h.own (dI_ok K hc h1) (dGi_ok K hc tk h2) (T.ss h h3) hp W tk
  | Pass p => cases e; exact s_pass
  | Break p => cases e; exact s_brk
  | Continue p => cases e; exact s_cnt
  | Raise x cz p =>
    cases cz with
    | some _ => cases e
    | none =>
      unfold dS1 at e
      simp only at e
      split at e
      · obtain ⟨g, e⟩ := oB_some e
        obtain ⟨i, h1, e⟩ := oM_some e
        cases e
        exact s_raise h.O (xcAt hc g h1)
      · cases e
  | Try a hs o f2 p =>
    cases o with
    | cons _ _ => cases e
    | nil => cases f2 with
      | cons _ _ => cases e
      | nil => cases hs with
        | nil => cases e
        | cons h0 hs =>
          have e : (oM (S.ss c a) fun fa => oM (dHs c (h0 :: hs)) fun r => some (sTry (sSeq fa) r)) = some f := e
          obtain ⟨fa, h1, e⟩ := oM_some e
          obtain ⟨r, h2, e⟩ := oM_some e
          cases e
          exact s_try h.O h.stk h.frm (fun pn xe hp => T.ss (h.tr hp) h1) (dHs_ok hc h2)
  | _ => cases e
theorem dSs1_ok (T : DenSOk S) (h : SOk X G k c) {sts : List Stmt} {fs : List EvS} (e : dSs1 S c sts = some fs) : SSs X G sts (sSeq fs) := by
  cases sts with
  | nil => cases e; exact ss_nil
  | cons st sts =>
    have e : (oM (S.s c st) fun f => oM (S.ss c sts) fun fs => some (f :: fs)) = some fs := e
    obtain ⟨f, h1, e⟩ := oM_some e
    obtain ⟨gs, h2, e⟩ := oM_some e
    cases e
    exact ss_cons (T.s h h1) (T.ss h h2)
end
theorem denS_ok : ∀ n, DenSOk (denS n)
  | 0 => ⟨(fun _ e => nomatch e), (fun _ e => nomatch e)⟩
  | n + 1 => ⟨fun h e => dS1_ok (den_ok n) (denS_ok n) h e, fun h e => dSs1_ok (denS_ok n) h e⟩

/-- what is read of a def's text -/
def dFn (n : Nat) (c : Cc) (np : Nat) (body : List Stmt) : Option FnF := oM ((denS n).ss c body) fun fs => some (fnI (parS np) (sSeq fs))
theorem fn_den {P : Program} {w : World} {K : PySem.W.Frag} {mg : Str → Option Value} {base : Heap} {G : Gd} {k m : Nat} {f : Addr} {name qual : Str} {params : Arguments} {body : List Stmt} {scope : Scope} {dV kV doc pm cdv ct oc : Value} {an od : Option Addr} {osl : Array (Option Value)} {N ps : List Str} {c : Cc} {fs : List EvS}
    (hP : P = G.P) (hw : w = G.w) (hK : K = G.K) (B : Bdy P w K mg base (k + 1) f name qual params body scope dV kV doc pm cdv ct oc an od osl N ps) (h9 : N.length ≤ 49) (PO : POk P w K mg base G k c)
    (hN : c.N = N) (hsc : c.sc = scope) (hfn : c.fnb = fun _ => true) (e : (denS m).ss c body = some fs) :
    FnOk P w K mg base (L2.CX P w) (k + 2) f (PySem.W.fnOf name qual params body scope dV kV doc pm an cdv ct) ps (spF G ps.length (fnI (parS ps.length) (sSeq fs))) := by
  refine fn_sound hP hw hK B h9 fun A outer s H E hr => (denS_ok m).ss (k := k) ?_ e
  refine { O := ⟨hP, hw, hK, rfl, B.S.nd, h9, ?_⟩, room := hr, N := hN.symm, sc := hsc.symm, kd := by rw [hsc]; exact B.S.kind, fnb := fun x => by rw [hfn]; rfl, P := PO, own := passes_of rfl, stk := rfl, frm := rfl }
  exact hr.units
end FP
end
section
namespace FP
def g0 : Get := fun r => r.a.a
def s0 : Set := fun v r => ⟨⟨v, r.a.b, r.a.c, r.a.d, r.a.e, r.a.f, r.a.g⟩, r.b, r.c, r.d, r.e, r.f, r.g⟩
def g1 : Get := fun r => r.a.b
def s1 : Set := fun v r => ⟨⟨r.a.a, v, r.a.c, r.a.d, r.a.e, r.a.f, r.a.g⟩, r.b, r.c, r.d, r.e, r.f, r.g⟩
def g2 : Get := fun r => r.a.c
def s2 : Set := fun v r => ⟨⟨r.a.a, r.a.b, v, r.a.d, r.a.e, r.a.f, r.a.g⟩, r.b, r.c, r.d, r.e, r.f, r.g⟩
def g3 : Get := fun r => r.a.d
def s3 : Set := fun v r => ⟨⟨r.a.a, r.a.b, r.a.c, v, r.a.e, r.a.f, r.a.g⟩, r.b, r.c, r.d, r.e, r.f, r.g⟩
def g4 : Get := fun r => r.a.e
def s4 : Set := fun v r => ⟨⟨r.a.a, r.a.b, r.a.c, r.a.d, v, r.a.f, r.a.g⟩, r.b, r.c, r.d, r.e, r.f, r.g⟩
def g5 : Get := fun r => r.a.f
def s5 : Set := fun v r => ⟨⟨r.a.a, r.a.b, r.a.c, r.a.d, r.a.e, v, r.a.g⟩, r.b, r.c, r.d, r.e, r.f, r.g⟩
def g6 : Get := fun r => r.a.g
def s6 : Set := fun v r => ⟨⟨r.a.a, r.a.b, r.a.c, r.a.d, r.a.e, r.a.f, v⟩, r.b, r.c, r.d, r.e, r.f, r.g⟩
def g7 : Get := fun r => r.b.a
def s7 : Set := fun v r => ⟨r.a, ⟨v, r.b.b, r.b.c, r.b.d, r.b.e, r.b.f, r.b.g⟩, r.c, r.d, r.e, r.f, r.g⟩
def g8 : Get := fun r => r.b.b
def s8 : Set := fun v r => ⟨r.a, ⟨r.b.a, v, r.b.c, r.b.d, r.b.e, r.b.f, r.b.g⟩, r.c, r.d, r.e, r.f, r.g⟩
def g9 : Get := fun r => r.b.c
def s9 : Set := fun v r => ⟨r.a, ⟨r.b.a, r.b.b, v, r.b.d, r.b.e, r.b.f, r.b.g⟩, r.c, r.d, r.e, r.f, r.g⟩
def g10 : Get := fun r => r.b.d
def s10 : Set := fun v r => ⟨r.a, ⟨r.b.a, r.b.b, r.b.c, v, r.b.e, r.b.f, r.b.g⟩, r.c, r.d, r.e, r.f, r.g⟩
def g11 : Get := fun r => r.b.e
def s11 : Set := fun v r => ⟨r.a, ⟨r.b.a, r.b.b, r.b.c, r.b.d, v, r.b.f, r.b.g⟩, r.c, r.d, r.e, r.f, r.g⟩
def g12 : Get := fun r => r.b.f
def s12 : Set := fun v r => ⟨r.a, ⟨r.b.a, r.b.b, r.b.c, r.b.d, r.b.e, v, r.b.g⟩, r.c, r.d, r.e, r.f, r.g⟩
def g13 : Get := fun r => r.b.g
def s13 : Set := fun v r => ⟨r.a, ⟨r.b.a, r.b.b, r.b.c, r.b.d, r.b.e, r.b.f, v⟩, r.c, r.d, r.e, r.f, r.g⟩
def g14 : Get := fun r => r.c.a
def s14 : Set := fun v r => ⟨r.a, r.b, ⟨v, r.c.b, r.c.c, r.c.d, r.c.e, r.c.f, r.c.g⟩, r.d, r.e, r.f, r.g⟩
def g15 : Get := fun r => r.c.b
def s15 : Set := fun v r => ⟨r.a, r.b, ⟨r.c.a, v, r.c.c, r.c.d, r.c.e, r.c.f, r.c.g⟩, r.d, r.e, r.f, r.g⟩
def g16 : Get := fun r => r.c.c
def s16 : Set := fun v r => ⟨r.a, r.b, ⟨r.c.a, r.c.b, v, r.c.d, r.c.e, r.c.f, r.c.g⟩, r.d, r.e, r.f, r.g⟩
def g17 : Get := fun r => r.c.d
def s17 : Set := fun v r => ⟨r.a, r.b, ⟨r.c.a, r.c.b, r.c.c, v, r.c.e, r.c.f, r.c.g⟩, r.d, r.e, r.f, r.g⟩
def g18 : Get := fun r => r.c.e
def s18 : Set := fun v r => ⟨r.a, r.b, ⟨r.c.a, r.c.b, r.c.c, r.c.d, v, r.c.f, r.c.g⟩, r.d, r.e, r.f, r.g⟩
def g19 : Get := fun r => r.c.f
def s19 : Set := fun v r => ⟨r.a, r.b, ⟨r.c.a, r.c.b, r.c.c, r.c.d, r.c.e, v, r.c.g⟩, r.d, r.e, r.f, r.g⟩
def g20 : Get := fun r => r.c.g
def s20 : Set := fun v r => ⟨r.a, r.b, ⟨r.c.a, r.c.b, r.c.c, r.c.d, r.c.e, r.c.f, v⟩, r.d, r.e, r.f, r.g⟩
def g21 : Get := fun r => r.d.a
def s21 : Set := fun v r => ⟨r.a, r.b, r.c, ⟨v, r.d.b, r.d.c, r.d.d, r.d.e, r.d.f, r.d.g⟩, r.e, r.f, r.g⟩
def g22 : Get := fun r => r.d.b
def s22 : Set := fun v r => ⟨r.a, r.b, r.c, ⟨r.d.a, v, r.d.c, r.d.d, r.d.e, r.d.f, r.d.g⟩, r.e, r.f, r.g⟩
def g23 : Get := fun r => r.d.c
def s23 : Set := fun v r => ⟨r.a, r.b, r.c, ⟨r.d.a, r.d.b, v, r.d.d, r.d.e, r.d.f, r.d.g⟩, r.e, r.f, r.g⟩
def g24 : Get := fun r => r.d.d
def s24 : Set := fun v r => ⟨r.a, r.b, r.c, ⟨r.d.a, r.d.b, r.d.c, v, r.d.e, r.d.f, r.d.g⟩, r.e, r.f, r.g⟩
def g25 : Get := fun r => r.d.e
def s25 : Set := fun v r => ⟨r.a, r.b, r.c, ⟨r.d.a, r.d.b, r.d.c, r.d.d, v, r.d.f, r.d.g⟩, r.e, r.f, r.g⟩
def g26 : Get := fun r => r.d.f
def s26 : Set := fun v r => ⟨r.a, r.b, r.c, ⟨r.d.a, r.d.b, r.d.c, r.d.d, r.d.e, v, r.d.g⟩, r.e, r.f, r.g⟩
def g27 : Get := fun r => r.d.g
def s27 : Set := fun v r => ⟨r.a, r.b, r.c, ⟨r.d.a, r.d.b, r.d.c, r.d.d, r.d.e, r.d.f, v⟩, r.e, r.f, r.g⟩
def g28 : Get := fun r => r.e.a
def s28 : Set := fun v r => ⟨r.a, r.b, r.c, r.d, ⟨v, r.e.b, r.e.c, r.e.d, r.e.e, r.e.f, r.e.g⟩, r.f, r.g⟩
def g29 : Get := fun r => r.e.b
def s29 : Set := fun v r => ⟨r.a, r.b, r.c, r.d, ⟨r.e.a, v, r.e.c, r.e.d, r.e.e, r.e.f, r.e.g⟩, r.f, r.g⟩
def g30 : Get := fun r => r.e.c
def s30 : Set := fun v r => ⟨r.a, r.b, r.c, r.d, ⟨r.e.a, r.e.b, v, r.e.d, r.e.e, r.e.f, r.e.g⟩, r.f, r.g⟩
def g31 : Get := fun r => r.e.d
def s31 : Set := fun v r => ⟨r.a, r.b, r.c, r.d, ⟨r.e.a, r.e.b, r.e.c, v, r.e.e, r.e.f, r.e.g⟩, r.f, r.g⟩
def g32 : Get := fun r => r.e.e
def s32 : Set := fun v r => ⟨r.a, r.b, r.c, r.d, ⟨r.e.a, r.e.b, r.e.c, r.e.d, v, r.e.f, r.e.g⟩, r.f, r.g⟩
def g33 : Get := fun r => r.e.f
def s33 : Set := fun v r => ⟨r.a, r.b, r.c, r.d, ⟨r.e.a, r.e.b, r.e.c, r.e.d, r.e.e, v, r.e.g⟩, r.f, r.g⟩
def g34 : Get := fun r => r.e.g
def s34 : Set := fun v r => ⟨r.a, r.b, r.c, r.d, ⟨r.e.a, r.e.b, r.e.c, r.e.d, r.e.e, r.e.f, v⟩, r.f, r.g⟩
def g35 : Get := fun r => r.f.a
def s35 : Set := fun v r => ⟨r.a, r.b, r.c, r.d, r.e, ⟨v, r.f.b, r.f.c, r.f.d, r.f.e, r.f.f, r.f.g⟩, r.g⟩
def g36 : Get := fun r => r.f.b
def s36 : Set := fun v r => ⟨r.a, r.b, r.c, r.d, r.e, ⟨r.f.a, v, r.f.c, r.f.d, r.f.e, r.f.f, r.f.g⟩, r.g⟩
def g37 : Get := fun r => r.f.c
def s37 : Set := fun v r => ⟨r.a, r.b, r.c, r.d, r.e, ⟨r.f.a, r.f.b, v, r.f.d, r.f.e, r.f.f, r.f.g⟩, r.g⟩
def g38 : Get := fun r => r.f.d
def s38 : Set := fun v r => ⟨r.a, r.b, r.c, r.d, r.e, ⟨r.f.a, r.f.b, r.f.c, v, r.f.e, r.f.f, r.f.g⟩, r.g⟩
def g39 : Get := fun r => r.f.e
def s39 : Set := fun v r => ⟨r.a, r.b, r.c, r.d, r.e, ⟨r.f.a, r.f.b, r.f.c, r.f.d, v, r.f.f, r.f.g⟩, r.g⟩
def g40 : Get := fun r => r.f.f
def s40 : Set := fun v r => ⟨r.a, r.b, r.c, r.d, r.e, ⟨r.f.a, r.f.b, r.f.c, r.f.d, r.f.e, v, r.f.g⟩, r.g⟩
def g41 : Get := fun r => r.f.g
def s41 : Set := fun v r => ⟨r.a, r.b, r.c, r.d, r.e, ⟨r.f.a, r.f.b, r.f.c, r.f.d, r.f.e, r.f.f, v⟩, r.g⟩
def g42 : Get := fun r => r.g.a
def s42 : Set := fun v r => ⟨r.a, r.b, r.c, r.d, r.e, r.f, ⟨v, r.g.b, r.g.c, r.g.d, r.g.e, r.g.f, r.g.g⟩⟩
def g43 : Get := fun r => r.g.b
def s43 : Set := fun v r => ⟨r.a, r.b, r.c, r.d, r.e, r.f, ⟨r.g.a, v, r.g.c, r.g.d, r.g.e, r.g.f, r.g.g⟩⟩
def g44 : Get := fun r => r.g.c
def s44 : Set := fun v r => ⟨r.a, r.b, r.c, r.d, r.e, r.f, ⟨r.g.a, r.g.b, v, r.g.d, r.g.e, r.g.f, r.g.g⟩⟩
def g45 : Get := fun r => r.g.d
def s45 : Set := fun v r => ⟨r.a, r.b, r.c, r.d, r.e, r.f, ⟨r.g.a, r.g.b, r.g.c, v, r.g.e, r.g.f, r.g.g⟩⟩
def g46 : Get := fun r => r.g.e
def s46 : Set := fun v r => ⟨r.a, r.b, r.c, r.d, r.e, r.f, ⟨r.g.a, r.g.b, r.g.c, r.g.d, v, r.g.f, r.g.g⟩⟩
def g47 : Get := fun r => r.g.f
def s47 : Set := fun v r => ⟨r.a, r.b, r.c, r.d, r.e, r.f, ⟨r.g.a, r.g.b, r.g.c, r.g.d, r.g.e, v, r.g.g⟩⟩
def g48 : Get := fun r => r.g.g
def s48 : Set := fun v r => ⟨r.a, r.b, r.c, r.d, r.e, r.f, ⟨r.g.a, r.g.b, r.g.c, r.g.d, r.g.e, r.g.f, v⟩⟩
def t0 : TAc := fun r => r.a.a.a
def t1 : TAc := fun r => r.a.a.b
def t2 : TAc := fun r => r.a.a.c
def t3 : TAc := fun r => r.a.a.d
def t4 : TAc := fun r => r.a.a.e
def t5 : TAc := fun r => r.a.a.f
def t6 : TAc := fun r => r.a.a.g
def t7 : TAc := fun r => r.a.b.a
def t8 : TAc := fun r => r.a.b.b
def t9 : TAc := fun r => r.a.b.c
def t10 : TAc := fun r => r.a.b.d
def t11 : TAc := fun r => r.a.b.e
def t12 : TAc := fun r => r.a.b.f
def t13 : TAc := fun r => r.a.b.g
def t14 : TAc := fun r => r.a.c.a
def t15 : TAc := fun r => r.a.c.b
def t16 : TAc := fun r => r.a.c.c
def t17 : TAc := fun r => r.a.c.d
def t18 : TAc := fun r => r.a.c.e
def t19 : TAc := fun r => r.a.c.f
def t20 : TAc := fun r => r.a.c.g
def t21 : TAc := fun r => r.a.d.a
def t22 : TAc := fun r => r.a.d.b
def t23 : TAc := fun r => r.a.d.c
def t24 : TAc := fun r => r.a.d.d
def t25 : TAc := fun r => r.a.d.e
def t26 : TAc := fun r => r.a.d.f
def t27 : TAc := fun r => r.a.d.g
def t28 : TAc := fun r => r.a.e.a
def t29 : TAc := fun r => r.a.e.b
def t30 : TAc := fun r => r.a.e.c
def t31 : TAc := fun r => r.a.e.d
def t32 : TAc := fun r => r.a.e.e
def t33 : TAc := fun r => r.a.e.f
def t34 : TAc := fun r => r.a.e.g
def t35 : TAc := fun r => r.a.f.a
def t36 : TAc := fun r => r.a.f.b
def t37 : TAc := fun r => r.a.f.c
def t38 : TAc := fun r => r.a.f.d
def t39 : TAc := fun r => r.a.f.e
def t40 : TAc := fun r => r.a.f.f
def t41 : TAc := fun r => r.a.f.g
def t42 : TAc := fun r => r.a.g.a
def t43 : TAc := fun r => r.a.g.b
def t44 : TAc := fun r => r.a.g.c
def t45 : TAc := fun r => r.a.g.d
def t46 : TAc := fun r => r.a.g.e
def t47 : TAc := fun r => r.a.g.f
def t48 : TAc := fun r => r.a.g.g
def t49 : TAc := fun r => r.b.a.a
def t50 : TAc := fun r => r.b.a.b
def t51 : TAc := fun r => r.b.a.c
def t52 : TAc := fun r => r.b.a.d
def t53 : TAc := fun r => r.b.a.e
def t54 : TAc := fun r => r.b.a.f
def t55 : TAc := fun r => r.b.a.g
def t56 : TAc := fun r => r.b.b.a
def t57 : TAc := fun r => r.b.b.b
def t58 : TAc := fun r => r.b.b.c
def t59 : TAc := fun r => r.b.b.d
def t60 : TAc := fun r => r.b.b.e
def t61 : TAc := fun r => r.b.b.f
def t62 : TAc := fun r => r.b.b.g
def t63 : TAc := fun r => r.b.c.a
def t64 : TAc := fun r => r.b.c.b
def t65 : TAc := fun r => r.b.c.c
def t66 : TAc := fun r => r.b.c.d
def t67 : TAc := fun r => r.b.c.e
def t68 : TAc := fun r => r.b.c.f
def t69 : TAc := fun r => r.b.c.g
def t70 : TAc := fun r => r.b.d.a
def t71 : TAc := fun r => r.b.d.b
def t72 : TAc := fun r => r.b.d.c
def t73 : TAc := fun r => r.b.d.d
def t74 : TAc := fun r => r.b.d.e
def t75 : TAc := fun r => r.b.d.f
def t76 : TAc := fun r => r.b.d.g
def t77 : TAc := fun r => r.b.e.a
def t78 : TAc := fun r => r.b.e.b
def t79 : TAc := fun r => r.b.e.c
def t80 : TAc := fun r => r.b.e.d
def t81 : TAc := fun r => r.b.e.e
def t82 : TAc := fun r => r.b.e.f
def t83 : TAc := fun r => r.b.e.g
def t84 : TAc := fun r => r.b.f.a
def t85 : TAc := fun r => r.b.f.b
def t86 : TAc := fun r => r.b.f.c
def t87 : TAc := fun r => r.b.f.d
def t88 : TAc := fun r => r.b.f.e
def t89 : TAc := fun r => r.b.f.f
def t90 : TAc := fun r => r.b.f.g
def t91 : TAc := fun r => r.b.g.a
def t92 : TAc := fun r => r.b.g.b
def t93 : TAc := fun r => r.b.g.c
def t94 : TAc := fun r => r.b.g.d
def t95 : TAc := fun r => r.b.g.e
def t96 : TAc := fun r => r.b.g.f
def t97 : TAc := fun r => r.b.g.g
def t98 : TAc := fun r => r.c.a.a
def t99 : TAc := fun r => r.c.a.b
def t100 : TAc := fun r => r.c.a.c
def t101 : TAc := fun r => r.c.a.d
def t102 : TAc := fun r => r.c.a.e
def t103 : TAc := fun r => r.c.a.f
def t104 : TAc := fun r => r.c.a.g
def t105 : TAc := fun r => r.c.b.a
def t106 : TAc := fun r => r.c.b.b
def t107 : TAc := fun r => r.c.b.c
def t108 : TAc := fun r => r.c.b.d
def t109 : TAc := fun r => r.c.b.e
def t110 : TAc := fun r => r.c.b.f
def t111 : TAc := fun r => r.c.b.g
def t112 : TAc := fun r => r.c.c.a
def t113 : TAc := fun r => r.c.c.b
def t114 : TAc := fun r => r.c.c.c
def t115 : TAc := fun r => r.c.c.d
def t116 : TAc := fun r => r.c.c.e
def t117 : TAc := fun r => r.c.c.f
def t118 : TAc := fun r => r.c.c.g
def t119 : TAc := fun r => r.c.d.a
def t120 : TAc := fun r => r.c.d.b
def t121 : TAc := fun r => r.c.d.c
def t122 : TAc := fun r => r.c.d.d
def t123 : TAc := fun r => r.c.d.e
def t124 : TAc := fun r => r.c.d.f
def t125 : TAc := fun r => r.c.d.g
def t126 : TAc := fun r => r.c.e.a
def t127 : TAc := fun r => r.c.e.b
def t128 : TAc := fun r => r.c.e.c
def t129 : TAc := fun r => r.c.e.d
def t130 : TAc := fun r => r.c.e.e
def t131 : TAc := fun r => r.c.e.f
def t132 : TAc := fun r => r.c.e.g
def t133 : TAc := fun r => r.c.f.a
def t134 : TAc := fun r => r.c.f.b
def t135 : TAc := fun r => r.c.f.c
def t136 : TAc := fun r => r.c.f.d
def t137 : TAc := fun r => r.c.f.e
def t138 : TAc := fun r => r.c.f.f
def t139 : TAc := fun r => r.c.f.g
def t140 : TAc := fun r => r.c.g.a
def t141 : TAc := fun r => r.c.g.b
def t142 : TAc := fun r => r.c.g.c
def t143 : TAc := fun r => r.c.g.d
def t144 : TAc := fun r => r.c.g.e
def t145 : TAc := fun r => r.c.g.f
def t146 : TAc := fun r => r.c.g.g
def t147 : TAc := fun r => r.d.a.a
def t148 : TAc := fun r => r.d.a.b
def t149 : TAc := fun r => r.d.a.c
def t150 : TAc := fun r => r.d.a.d
def t151 : TAc := fun r => r.d.a.e
def t152 : TAc := fun r => r.d.a.f
def t153 : TAc := fun r => r.d.a.g
def t154 : TAc := fun r => r.d.b.a
def t155 : TAc := fun r => r.d.b.b
def t156 : TAc := fun r => r.d.b.c
def t157 : TAc := fun r => r.d.b.d
def t158 : TAc := fun r => r.d.b.e
def t159 : TAc := fun r => r.d.b.f
def t160 : TAc := fun r => r.d.b.g
def t161 : TAc := fun r => r.d.c.a
def t162 : TAc := fun r => r.d.c.b
def t163 : TAc := fun r => r.d.c.c
def t164 : TAc := fun r => r.d.c.d
def t165 : TAc := fun r => r.d.c.e
def t166 : TAc := fun r => r.d.c.f
def t167 : TAc := fun r => r.d.c.g
def t168 : TAc := fun r => r.d.d.a
def t169 : TAc := fun r => r.d.d.b
def t170 : TAc := fun r => r.d.d.c
def t171 : TAc := fun r => r.d.d.d
def t172 : TAc := fun r => r.d.d.e
def t173 : TAc := fun r => r.d.d.f
def t174 : TAc := fun r => r.d.d.g
def t175 : TAc := fun r => r.d.e.a
def t176 : TAc := fun r => r.d.e.b
def t177 : TAc := fun r => r.d.e.c
def t178 : TAc := fun r => r.d.e.d
def t179 : TAc := fun r => r.d.e.e
def t180 : TAc := fun r => r.d.e.f
def t181 : TAc := fun r => r.d.e.g
def t182 : TAc := fun r => r.d.f.a
def t183 : TAc := fun r => r.d.f.b
def t184 : TAc := fun r => r.d.f.c
def t185 : TAc := fun r => r.d.f.d
def t186 : TAc := fun r => r.d.f.e
def t187 : TAc := fun r => r.d.f.f
def t188 : TAc := fun r => r.d.f.g
def t189 : TAc := fun r => r.d.g.a
def t190 : TAc := fun r => r.d.g.b
def t191 : TAc := fun r => r.d.g.c
def t192 : TAc := fun r => r.d.g.d
def t193 : TAc := fun r => r.d.g.e
def t194 : TAc := fun r => r.d.g.f
def t195 : TAc := fun r => r.d.g.g
def t196 : TAc := fun r => r.e.a.a
def t197 : TAc := fun r => r.e.a.b
def t198 : TAc := fun r => r.e.a.c
def t199 : TAc := fun r => r.e.a.d
def t200 : TAc := fun r => r.e.a.e
def t201 : TAc := fun r => r.e.a.f
def t202 : TAc := fun r => r.e.a.g
def t203 : TAc := fun r => r.e.b.a
def t204 : TAc := fun r => r.e.b.b
def t205 : TAc := fun r => r.e.b.c
def t206 : TAc := fun r => r.e.b.d
def t207 : TAc := fun r => r.e.b.e
def t208 : TAc := fun r => r.e.b.f
def t209 : TAc := fun r => r.e.b.g
def t210 : TAc := fun r => r.e.c.a
def t211 : TAc := fun r => r.e.c.b
def t212 : TAc := fun r => r.e.c.c
def t213 : TAc := fun r => r.e.c.d
def t214 : TAc := fun r => r.e.c.e
def t215 : TAc := fun r => r.e.c.f
def t216 : TAc := fun r => r.e.c.g
def t217 : TAc := fun r => r.e.d.a
def t218 : TAc := fun r => r.e.d.b
def t219 : TAc := fun r => r.e.d.c
def t220 : TAc := fun r => r.e.d.d
def t221 : TAc := fun r => r.e.d.e
def t222 : TAc := fun r => r.e.d.f
def t223 : TAc := fun r => r.e.d.g
def t224 : TAc := fun r => r.e.e.a
def t225 : TAc := fun r => r.e.e.b
def t226 : TAc := fun r => r.e.e.c
def t227 : TAc := fun r => r.e.e.d
def t228 : TAc := fun r => r.e.e.e
def t229 : TAc := fun r => r.e.e.f
def t230 : TAc := fun r => r.e.e.g
def t231 : TAc := fun r => r.e.f.a
def t232 : TAc := fun r => r.e.f.b
def t233 : TAc := fun r => r.e.f.c
def t234 : TAc := fun r => r.e.f.d
def t235 : TAc := fun r => r.e.f.e
def t236 : TAc := fun r => r.e.f.f
def t237 : TAc := fun r => r.e.f.g
def t238 : TAc := fun r => r.e.g.a
def t239 : TAc := fun r => r.e.g.b
def t240 : TAc := fun r => r.e.g.c
def t241 : TAc := fun r => r.e.g.d
def t242 : TAc := fun r => r.e.g.e
def t243 : TAc := fun r => r.e.g.f
def t244 : TAc := fun r => r.e.g.g
def t245 : TAc := fun r => r.f.a.a
def t246 : TAc := fun r => r.f.a.b
def t247 : TAc := fun r => r.f.a.c
def t248 : TAc := fun r => r.f.a.d
def t249 : TAc := fun r => r.f.a.e
def t250 : TAc := fun r => r.f.a.f
def t251 : TAc := fun r => r.f.a.g
def t252 : TAc := fun r => r.f.b.a
def t253 : TAc := fun r => r.f.b.b
def t254 : TAc := fun r => r.f.b.c
def t255 : TAc := fun r => r.f.b.d
def t256 : TAc := fun r => r.f.b.e
def t257 : TAc := fun r => r.f.b.f
def t258 : TAc := fun r => r.f.b.g
def t259 : TAc := fun r => r.f.c.a
def t260 : TAc := fun r => r.f.c.b
def t261 : TAc := fun r => r.f.c.c
def t262 : TAc := fun r => r.f.c.d
def t263 : TAc := fun r => r.f.c.e
def t264 : TAc := fun r => r.f.c.f
def t265 : TAc := fun r => r.f.c.g
def t266 : TAc := fun r => r.f.d.a
def t267 : TAc := fun r => r.f.d.b
def t268 : TAc := fun r => r.f.d.c
def t269 : TAc := fun r => r.f.d.d
def t270 : TAc := fun r => r.f.d.e
def t271 : TAc := fun r => r.f.d.f
def t272 : TAc := fun r => r.f.d.g
def t273 : TAc := fun r => r.f.e.a
def t274 : TAc := fun r => r.f.e.b
def t275 : TAc := fun r => r.f.e.c
def t276 : TAc := fun r => r.f.e.d
def t277 : TAc := fun r => r.f.e.e
def t278 : TAc := fun r => r.f.e.f
def t279 : TAc := fun r => r.f.e.g
def t280 : TAc := fun r => r.f.f.a
def t281 : TAc := fun r => r.f.f.b
def t282 : TAc := fun r => r.f.f.c
def t283 : TAc := fun r => r.f.f.d
def t284 : TAc := fun r => r.f.f.e
def t285 : TAc := fun r => r.f.f.f
def t286 : TAc := fun r => r.f.f.g
def t287 : TAc := fun r => r.f.g.a
def t288 : TAc := fun r => r.f.g.b
def t289 : TAc := fun r => r.f.g.c
def t290 : TAc := fun r => r.f.g.d
def t291 : TAc := fun r => r.f.g.e
def t292 : TAc := fun r => r.f.g.f
def t293 : TAc := fun r => r.f.g.g
def t294 : TAc := fun r => r.g.a.a
def t295 : TAc := fun r => r.g.a.b
def t296 : TAc := fun r => r.g.a.c
def t297 : TAc := fun r => r.g.a.d
def t298 : TAc := fun r => r.g.a.e
def t299 : TAc := fun r => r.g.a.f
def t300 : TAc := fun r => r.g.a.g
def t301 : TAc := fun r => r.g.b.a
def t302 : TAc := fun r => r.g.b.b
def t303 : TAc := fun r => r.g.b.c
def t304 : TAc := fun r => r.g.b.d
def t305 : TAc := fun r => r.g.b.e
def t306 : TAc := fun r => r.g.b.f
def t307 : TAc := fun r => r.g.b.g
def t308 : TAc := fun r => r.g.c.a
def t309 : TAc := fun r => r.g.c.b
def t310 : TAc := fun r => r.g.c.c
def t311 : TAc := fun r => r.g.c.d
def t312 : TAc := fun r => r.g.c.e
def t313 : TAc := fun r => r.g.c.f
def t314 : TAc := fun r => r.g.c.g
def t315 : TAc := fun r => r.g.d.a
def t316 : TAc := fun r => r.g.d.b
def t317 : TAc := fun r => r.g.d.c
def t318 : TAc := fun r => r.g.d.d
def t319 : TAc := fun r => r.g.d.e
def t320 : TAc := fun r => r.g.d.f
def t321 : TAc := fun r => r.g.d.g
def t322 : TAc := fun r => r.g.e.a
def t323 : TAc := fun r => r.g.e.b
def t324 : TAc := fun r => r.g.e.c
def t325 : TAc := fun r => r.g.e.d
def t326 : TAc := fun r => r.g.e.e
def t327 : TAc := fun r => r.g.e.f
def t328 : TAc := fun r => r.g.e.g
def t329 : TAc := fun r => r.g.f.a
def t330 : TAc := fun r => r.g.f.b
def t331 : TAc := fun r => r.g.f.c
def t332 : TAc := fun r => r.g.f.d
def t333 : TAc := fun r => r.g.f.e
def t334 : TAc := fun r => r.g.f.f
def t335 : TAc := fun r => r.g.f.g
def t336 : TAc := fun r => r.g.g.a
def t337 : TAc := fun r => r.g.g.b
def t338 : TAc := fun r => r.g.g.c
def t339 : TAc := fun r => r.g.g.d
def t340 : TAc := fun r => r.g.g.e
def t341 : TAc := fun r => r.g.g.f
def t342 : TAc := fun r => r.g.g.g
end FP
end
section
namespace FP
open PySem PySem.Spec PyProof.Rows L2 PySem.SeqAt

def foB (l : List (List Nat)) (c f : Nat) : Bool := match nth l c with
  | some fs => fs.any (Nat.beq f)
  | none => false
def clsBody : Stmt → List Stmt
  | .ClassDef _ _ _ b _ _ _ _ _ _ _ => b
  | _ => []
/-- a def: its datum, its names, its parameters, its text read -/
structure Dat where
  d : He.DefD
  N : List Str
  ps : List Str
  b : Option (Tab → List EvS)
  /-- of plain values alone: in a heap of its own -/
  p : Bool
def dat0 : Dat := ⟨⟨("", none), "", "", ⟨[], [], none, [], [], none, []⟩, [], ⟨.function, [], false, false, []⟩, [], []⟩, [], [], none, false⟩
/-- a program: its defs, classes, exceptions, fields, which class has which, constants; what its names stand for -/
structure Top where
  dats : List Dat
  cls : List Str
  excs : List Str
  attrs : List Str
  fos : List (List Nat)
  cons : List (Str × Vl)
  fns : List (Str × Nat × Nat)
  mks : List (Str × Nat × Nat × Nat)
  mts : List (Str × Nat × List (Nat × Nat))
def numb : List Str → Nat → List (Str × Nat)
  | [], _ => []
  | x :: xs, n => (x, n) :: numb xs (Nat.succ n)
theorem numb_mem {x : Str} {i : Nat} : ∀ {l : List Str} {n : Nat}, (x, i) ∈ numb l n → ∃ j, i = n + j ∧ l[j]? = some x
  | [], _, h => nomatch h
  | y :: ys, n, h => by
    rcases List.mem_cons.mp h with h | h
    · cases h; exact ⟨0, rfl, rfl⟩
    · obtain ⟨j, e, h2⟩ := numb_mem h
      exact ⟨j + 1, by omega, h2⟩
theorem lookup_in {α : Type} {x : Str} {a : α} : ∀ {l : List (Str × α)}, l.lookup x = some a → (x, a) ∈ l
  | [], h => nomatch h
  | (y, b) :: l, h => by
    rw [List.lookup_cons] at h
    cases e : x == y with
    | true => rw [e] at h; cases h; rw [beq_iff_eq.mp e]; exact List.mem_cons_self
    | false => rw [e] at h; exact List.mem_cons_of_mem _ (lookup_in h)
theorem numb_at {x : Str} {i : Nat} {l : List Str} (h : (numb l 0).lookup x = some i) : l[i]? = some x := by
  obtain ⟨j, e, h2⟩ := numb_mem (lookup_in h)
  rw [e, Nat.zero_add]; exact h2
def Top.cc (T : Top) (d : Dat) (tab : Tab) : Cc where
  N := d.N
  sc := d.d.scope
  fnb := fun _ => true
  tab := tab
  fns := T.fns.map fun p => (p.1, p.2.1, tOf p.2.2)
  mks := T.mks.map fun p => (p.1, p.2.1, p.2.2.1, tOf p.2.2.2)
  mts := T.mts.map fun p => (p.1, p.2.1, p.2.2.map fun q => (q.1, tOf q.2))
  ats := numb T.attrs 0
  cons := T.cons
  xcs := numb T.excs 0
  fo := foB T.fos
def Reads (T : Top) (tab : Tab) (d : Dat) (fs : List EvS) : Prop := (denS 90).ss (T.cc d tab) d.d.body = some fs
def ReadsAll (T : Top) (tab : Tab) (l : List Dat) : Prop := ∀ d ∈ l, ∀ b, d.b = some b → Reads T tab d (b tab)
def Dat.f (tab : Tab) (d : Dat) : FnF := match d.b with
  | some b => match d.p with
    | true => fnP (parS d.ps.length) (sSeq (b tab))
    | false => fnI (parS d.ps.length) (sSeq (b tab))
  | none => fnBad
def TabAt (T : Top) (tab tab' : Tab) : Prop := T.dats.map (Dat.f tab) = (List.range T.dats.length).map fun i => tOf i tab'
def BindsD (d : Dat) : Prop := ∀ (kV doc pm : Value) (an : Option Addr) (cdv ct : Value) (us : List Value), us.length = d.ps.length → bindArgs (PySem.W.fnOf d.d.name d.d.qual d.d.params d.d.body d.d.scope .none kV doc pm an cdv ct) ⟨us, []⟩ = pure (d.ps.zip us)

def fnScB (N ps : List Str) (sc : Scope) : Bool := fnKd sc && (!sc.isCoroutine && (!sc.isGenerator && (decide N.Nodup && (decide (N.take ps.length = ps) && (ps.all (fun x => match lkS x sc.names with
  | some .local => true
  | some .cell => true
  | _ => false) && sc.names.all (fun y => match y.2 with
  | .free => false
  | _ => true))))))
theorem fnScB_ok {N ps : List Str} {sc : Scope} (h : fnScB N ps sc = true) : FnScope N ps sc := by
  unfold fnScB at h
  simp only [Bool.and_eq_true, Bool.not_eq_true', decide_eq_true_iff, List.all_eq_true] at h
  obtain ⟨h1, h2, h3, h4, h5, h6, h7⟩ := h
  refine ⟨?_, h2, h3, h4, h5, fun x hx => ?_, fun y hy e => ?_⟩
  · unfold fnKd at h1
    split at h1
    · assumption
    · cases h1
  · have := h6 x hx
    rw [lkS_eq] at this
    split at this
    · exact .inl (by assumption)
    · exact .inr (by assumption)
    · cases this
  · have := h7 y hy
    rw [e] at this
    cases this
def okD (x : Str) : Bool := !(x == ("__debug__" : Str))
theorem okD_ok {x : Str} (h : okD x = true) : (x == ("__debug__" : Str)) = false := by
  unfold okD at h
  rw [Bool.not_eq_true'] at h
  exact h
def atB (T : Top) (i n : Nat) (p : Str × Option Str) : Bool := match T.dats[i]? with
  | some d => decide (d.d.at_ = p) && decide (d.ps.length = n)
  | none => false
theorem atB_ok {T : Top} {i n : Nat} {p : Str × Option Str} (h : atB T i n p = true) : ∃ d, T.dats[i]? = some d ∧ d.d.at_ = p ∧ d.ps.length = n := by
  unfold atB at h
  split at h
  · rename_i d e
    rw [Bool.and_eq_true, decide_eq_true_iff, decide_eq_true_iff] at h
    exact ⟨d, e, h.1, h.2⟩
  · cases h
structure Top.Ok (T : Top) : Prop where
  dat : T.dats.all (fun d => fnScB d.N d.ps d.d.scope && (Nat.ble d.N.length 49 && (d.d.dfl.isEmpty && d.d.kwd.isEmpty))) = true
  n : T.dats.length ≤ 343
  fns : T.fns.all (fun p => okD p.1 && atB T p.2.2 p.2.1 (p.1, none)) = true
  mks : T.mks.all (fun p => okD p.1 && (atB T p.2.2.2 p.2.2.1 (p.1, some "__init__") && decide (T.cls[p.2.1]? = some p.1))) = true
  mts : T.mts.all (fun p => p.2.2.all fun q => match T.cls[q.1]? with | some x => atB T q.2 p.2.1 (x, some p.1) | none => false) = true
  nd : T.attrs.Nodup
  excs : T.excs.all okD = true
  cons : T.cons.all (fun p => okD p.1) = true
def all2 {α β : Type} (p : α → β → Bool) : List α → List β → Bool
  | [], us => us.isEmpty
  | x :: xs, us => match us with
    | [] => false
    | u :: us => p x u && all2 p xs us
def valB (K : PySem.W.Frag) : Nat → Vl → Value → Bool
  | 0, _, _ => false
  | n + 1, v, u => match v with
    | .non => (match u with | .none => true | _ => false)
    | .bl b => (match u with | .bool c => b == c | _ => false)
    | .int i => (match u with | .int j _ => decide (i = j) | _ => false)
    | .str s => (match u with | .str y _ => decide (y = strOf s) | _ => false)
    | .tup xs => (match u with
      | .ref a => (match K.lookup a with
        | some ⟨.type c, none, .seq its _, _⟩ => decide (c = "tuple") && (decide (its.size ≤ sizeLine) && all2 (valB K n) xs its.toList)
        | _ => false)
      | _ => false)
    | _ => false
theorem valB_ok {K : PySem.W.Frag} : ∀ (n : Nat) {v : Vl} {u : Value}, valB K n v u = true → ∃ t : V, RelV t u ∧ ∀ φ H, RV K φ H v t
  | 0, _, _, h => nomatch h
  | n + 1, v, u, h => by
    have all : ∀ (xs : List Vl) (us : List Value), all2 (valB K n) xs us = true → ∃ ts : List V, Vals ts us ∧ xs.length = ts.length ∧ ∀ φ H, ∀ (i : Nat) (x : Vl) (v : V), xs[i]? = some x → ts[i]? = some v → RV K φ H x v := by
      intro xs
      induction xs with
      | nil => intro us h; cases us with
        | nil => exact ⟨[], .nil, rfl, fun φ H i x v h => by simp at h⟩
        | cons _ _ => cases h
      | cons x xs ih => intro us h; cases us with
        | nil => cases h
        | cons u us =>
          have h' : (valB K n x u && all2 (valB K n) xs us) = true := h
          rw [Bool.and_eq_true] at h'
          obtain ⟨t, h1, h2⟩ := valB_ok n h'.1
          obtain ⟨ts, h3, h4, h5⟩ := ih us h'.2
          exact ⟨t :: ts, .cons h1 h3, by simp [h4], fun φ H => (RVs.cons (h2 φ H) ⟨h4, h5 φ H⟩).2⟩
    cases v with
    | non => cases u with
      | none => exact ⟨.non, rfl, fun _ _ => .non⟩
      | _ => cases h
    | bl b => cases u with
      | bool c => have e : b = c := eq_of_beq (show (b == c) = true from h); subst e; exact ⟨.bl b, rfl, fun _ _ => .bl b⟩
      | _ => cases h
    | int i => cases u with
      | int j t => have e : i = j := of_decide_eq_true h; subst e; exact ⟨.int i, ⟨t, rfl⟩, fun _ _ => .int i⟩
      | _ => cases h
    | str s => cases u with
      | str y t => have e : y = strOf s := of_decide_eq_true h; subst e; exact ⟨.str (strOf s), ⟨t, rfl⟩, fun _ _ => .str s⟩
      | _ => cases h
    | tup xs => cases u with
      | ref a =>
        have h' : (match K.lookup a with
          | some ⟨.type c, none, .seq its _, _⟩ => decide (c = "tuple") && (decide (its.size ≤ sizeLine) && all2 (valB K n) xs its.toList)
          | _ => false) = true := h
        cases q : K.lookup a with
        | none => rw [q] at h'; cases h'
        | some o =>
          obtain ⟨oc, od, dt, osl⟩ := o
          rw [q] at h'
          cases oc with
          | type c =>
            cases od with
            | none =>
              cases dt with
              | seq its m =>
                have h' : (decide (c = "tuple") && (decide (its.size ≤ sizeLine) && all2 (valB K n) xs its.toList)) = true := h'
                simp only [Bool.and_eq_true, decide_eq_true_iff] at h'
                obtain ⟨ts, h3, h4, h5⟩ := all xs its.toList h'.2.2
                exact ⟨.ref a, rfl, fun φ H => .tup (.inr ⟨_, its, m, q, congrArg Value.type h'.1, rfl, rfl, h'.2.1, h3⟩) h4 (h5 φ H)⟩
              | _ => cases h'
            | some _ => cases dt <;> cases h'
          | _ => cases od <;> cases dt <;> cases h'
      | _ => cases h
    | _ => cases h
def conV (K : PySem.W.Frag) (x : Str) (v : Vl) : Bool := match PySem.W.nsIn K mainGlobals x with
  | some (some u) => valB K 30 v u
  | _ => false
def noaB (T : Top) (K : PySem.W.Frag) (x : Str) (l : List Nat) : Bool := l.all fun f => match T.attrs[f]? with
  | some nm => (He.Fa.noat x nm).ok K
  | none => true
def noasB (T : Top) (K : PySem.W.Frag) : List Str → List (List Nat) → Bool
  | x :: xs, l :: ls => noaB T K x l && noasB T K xs ls
  | _, _ => true
def mtsB (T : Top) (K : PySem.W.Frag) (m : Str) (l : List (Nat × Nat)) : Bool := l.all fun q => match T.cls[q.1]? with
  | some x => (He.Fa.meth x m).ok K
  | none => true
def exmB (T : Top) (K : PySem.W.Frag) : Bool := (numb T.excs 0).all fun p => (numb T.excs 0).all fun q => (He.Fa.exm p.1 q.1 (Nat.beq p.2 q.2)).ok K
def Top.see (T : Top) (K : PySem.W.Frag) : Bool := T.dats.all (fun d => d.d.ok K) && (T.fns.all (fun p => (He.Fa.glo p.1).ok K) && (T.mks.all (fun p => (He.Fa.glo p.1).ok K && (He.Fa.mkr p.1).ok K) && (T.mts.all (fun p => mtsB T K p.1 p.2.2) &&
  (T.excs.all (fun x => (He.Fa.glo x).ok K && (He.Fa.exc x).ok K) && (exmB T K && (T.cls.all (fun x => (He.Fa.cls x).ok K) && (noasB T K T.cls T.fos && (T.cons.all (fun p => conV K p.1 p.2) && bltNs.all (fun l => (He.Fa.free (strOf l)).ok K)))))))))
def obsF (T : Top) (K : PySem.W.Frag) : He.AlD := (T.see K, T.dats.map fun d => He.fnW K d.d.at_)
def valF (T : Top) : He.AlD := (true, T.dats.map fun d => d.d.val)
def SaysF (T : Top) (K : PySem.W.Frag) : Prop := obsF T K = valF T
/-- what an object names, of what is looked at -/
def refsK (o : Obj) : List Addr := match o.data with
  | .seq its _ => its.toList.flatMap He.refV
  | .dict es _ => es.toList.flatMap fun e => He.refV e.val
  | .func fd => He.refV fd.code
  | .cls cd => cd.ns :: cd.mro.flatMap He.refV
  | _ => []
def asF (g : Addr → Option Obj) : Nat → List Addr → List Addr
  | 0, as => as
  | n + 1, as => as ++ asF g n (as.flatMap fun a => match g a with
    | some o => refsK o
    | none => [])
def obsFG (n : Nat) (T : Top) (g : Addr → Option Obj) : He.AlD := obsF T (He.frG g (asF g n [mainGlobals]))
def hookF (n : Nat) (T : Top) : PySem.W.Hook where
  α := He.AlD
  obs := fun s => obsFG n T s.heap.get?
  val := fun _ => valF T
  says := fun _ h => ∃ K : PySem.W.Frag, K.In h ∧ SaysF T K
  of := fun _ _ e => ⟨_, He.frG_in, e⟩
  keeps := fun _ _ _ ⟨K, hK, c⟩ k => ⟨K, PySem.W.Frag.In.keeps hK k, c⟩
theorem obsFG_eq {n : Nat} {T : Top} {g : Addr → Option Obj} {s : Shared} (h : ∀ a, g a = s.heap.get? a) : obsFG n T g = (hookF n T).obs s := by
  have e : g = s.heap.get? := funext h
  rw [e] <;> rfl
end FP
end
section
namespace FP
open PySem PySem.Spec PyProof.Rows L2 PySem.SeqAt

theorem ba2 {a b : Bool} (h : (a && b) = true) : a = true ∧ b = true := Bool.and_eq_true_iff.mp h
structure Facts (T : Top) (K : PySem.W.Frag) (mg : Str → Option Value) : Prop where
  says : SaysF T K
  at' : ∃ h : Heap, K.In h ∧ h.Ns mainGlobals mg
section
variable {T : Top} {K : PySem.W.Frag} {mg : Str → Option Value} {P : Program} {w : World} {base : Heap}
theorem SaysF.see (c : SaysF T K) : T.see K = true := congrArg (fun z : He.AlD => z.1) c
theorem SaysF.def_ (c : SaysF T K) {i : Nat} {d : Dat} (h : T.dats[i]? = some d) : ∃ fd, FunD K d.d.name d.d.qual d.d.params d.d.body d.d.scope (d.d.dvs K) (d.d.kws K) (He.fAd K d.d.at_) fd := by
  have c1 := (ba2 c.see).1
  have e : (T.dats.map fun d => He.fnW K d.d.at_) = T.dats.map fun d => d.d.val := congrArg (fun z : He.AlD => z.2) c
  have e2 : (T.dats.map fun d => He.fnW K d.d.at_)[i]? = (T.dats.map fun d => d.d.val)[i]? := by rw [e]
  rw [List.getElem?_map, List.getElem?_map, h] at e2
  exact He.DefD.funD (Option.some.inj e2) (List.all_eq_true.mp c1 d (List.mem_of_getElem? h))
theorem Facts.glo (F : Facts T K mg) {x : Str} (c : (He.Fa.glo x).ok K = true) : mg x = some (.ref (He.ga K x)) := by
  obtain ⟨h, X, G⟩ := F.at'
  exact He.glo_ok X G c
def Top.gd (T : Top) (O : T.Ok) (P : Program) (w : World) (K : PySem.W.Frag) (hc : T.cls.all (fun x => (He.Fa.cls x).ok K) = true) : Gd where
  P := P
  w := w
  K := K
  attrs := T.attrs
  clss := T.cls.map (He.ga K)
  excs := T.excs.map (He.ga K)
  fld := fun _ => ""
  attrs_nd := O.nd
  cls_ok := fun c C h => by
    rw [List.getElem?_map] at h
    cases e : T.cls[c]? with
    | none => rw [e] at h; cases h
    | some x =>
      rw [e] at h
      cases h
      exact He.cls_ok (List.all_eq_true.mp hc x (List.mem_of_getElem? e))
structure See (T : Top) (K : PySem.W.Frag) : Prop where
  dats : T.dats.all (fun d => d.d.ok K) = true
  fns : T.fns.all (fun p => (He.Fa.glo p.1).ok K) = true
  mks : T.mks.all (fun p => (He.Fa.glo p.1).ok K && (He.Fa.mkr p.1).ok K) = true
  mts : T.mts.all (fun p => mtsB T K p.1 p.2.2) = true
  excs : T.excs.all (fun x => (He.Fa.glo x).ok K && (He.Fa.exc x).ok K) = true
  exm : exmB T K = true
  cls : T.cls.all (fun x => (He.Fa.cls x).ok K) = true
  noa : noasB T K T.cls T.fos = true
  cons : T.cons.all (fun p => conV K p.1 p.2) = true
  bn : bltNs.all (fun l => (He.Fa.free (strOf l)).ok K) = true
theorem Facts.sees (F : Facts T K mg) : See T K := by
  have h := F.says.see
  obtain ⟨h1, h⟩ := ba2 h
  obtain ⟨h2, h⟩ := ba2 h
  obtain ⟨h3, h⟩ := ba2 h
  obtain ⟨h4, h⟩ := ba2 h
  obtain ⟨h5, h⟩ := ba2 h
  obtain ⟨h6, h⟩ := ba2 h
  obtain ⟨h7, h⟩ := ba2 h
  obtain ⟨h8, h⟩ := ba2 h
  obtain ⟨h9, h⟩ := ba2 h
  exact ⟨h1, h2, h3, h4, h5, h6, h7, h8, h9, h⟩
/-- what is proved of the defs' texts -/
structure Texts (T : Top) (tabN : Tab → Tab) : Prop where
  ok : T.Ok
  rd : ∀ tab, ReadsAll T tab T.dats
  tb : ∀ tab, TabAt T tab (tabN tab)
  bd : ∀ d ∈ T.dats, BindsD d
def tabL (tabN : Tab → Tab) : Nat → Tab
  | 0 => tabBad
  | n + 1 => tabN (tabL tabN n)
theorem noas_ok : ∀ {xs : List Str} {ls : List (List Nat)} {c f : Nat} {x nm : Str}, noasB T K xs ls = true → foB ls c f = true → xs[c]? = some x → T.attrs[f]? = some nm → NoAttr K (He.ga K x) nm
  | [], _, _, _, _, _, _, _, hx, _ => by simp at hx
  | x :: xs, [], c, f, _, _, _, hf, _, _ => by
    unfold foB at hf
    have : nth ([] : List (List Nat)) c = none := rfl
    rw [this] at hf; cases hf
  | x :: xs, l :: ls, 0, f, y, nm, h, hf, hx, hn => by
    have h' : (noaB T K x l && noasB T K xs ls) = true := h
    have hf' : l.any (Nat.beq f) = true := hf
    cases hx
    obtain ⟨g, hg, e⟩ := List.any_eq_true.mp hf'
    have e := Nat.eq_of_beq_eq_true e
    subst e
    have := List.all_eq_true.mp (ba2 h').1 f hg
    rw [hn] at this
    exact He.noat_ok this
  | x :: xs, l :: ls, c + 1, f, y, nm, h, hf, hx, hn => by
    have h' : (noaB T K x l && noasB T K xs ls) = true := h
    exact noas_ok (xs := xs) (ls := ls) (c := c) (ba2 h').2 hf (by simpa using hx) hn
variable {tabN : Tab → Tab}
theorem Texts.at' (X : Texts T tabN) {tab : Tab} {i : Nat} {d : Dat} (h : T.dats[i]? = some d) : tOf i (tabN tab) = d.f tab := by
  have e := congrArg (fun l : List FnF => l[i]?) (X.tb tab)
  simp only [List.getElem?_map, h] at e
  have hi : i < T.dats.length := (List.getElem?_eq_some_iff.mp h).1
  rw [List.getElem?_range hi] at e
  exact (Option.some.inj e).symm
theorem fnOk_bad {k : Nat} {f : Addr} {fd : FuncData} {ps : List Str} {G : Gd} : FnOk P w K mg base (L2.CX P w) k f fd ps (spF G ps.length fnBad) :=
  ⟨fun vs H Q E h => h.1, fun A outer s H args us vs Q E hr he hb hv ⟨_, φ, η, xs, S, R, p⟩ => p.elim⟩
theorem tBad (i : Nat) : tOf i tabBad = fnBad := by
  have go : ∀ {α : Type} (k : Nat) (x : α), acc7 k (rep7 x) = x := fun k x => by unfold acc7; split <;> rfl
  show acc7 (i % 7) (acc7 (i / 7 % 7) (acc7 (i / 49) (rep7 (rep7 (rep7 fnBad))))) = fnBad
  rw [go, go, go]
/-- at a level: every def -/
def Lev (T : Top) (K : PySem.W.Frag) (mg : Str → Option Value) (P : Program) (w : World) (base : Heap) (G : Gd) (k : Nat) (tab : Tab) : Prop :=
  ∀ i d, T.dats[i]? = some d → ∀ fd, FunD K d.d.name d.d.qual d.d.params d.d.body d.d.scope [] [] (He.fAd K d.d.at_) fd → FnOk P w K mg base (L2.CX P w) k (He.fAd K d.d.at_) fd d.ps (spF G d.ps.length (tOf i tab))
theorem Facts.dat (F : Facts T K mg) (O : T.Ok) {i : Nat} {d : Dat} (h : T.dats[i]? = some d) : FnScope d.N d.ps d.d.scope ∧ d.N.length ≤ 49 ∧ ∃ fd, FunD K d.d.name d.d.qual d.d.params d.d.body d.d.scope [] [] (He.fAd K d.d.at_) fd := by
  have := List.all_eq_true.mp O.dat d (List.mem_of_getElem? h)
  obtain ⟨h1, h2⟩ := ba2 this
  obtain ⟨h2, h3⟩ := ba2 h2
  obtain ⟨h3, h4⟩ := ba2 h3
  obtain ⟨fd, FD⟩ := F.says.def_ h
  refine ⟨fnScB_ok h1, Nat.le_of_ble_eq_true h2, fd, ?_⟩
  have e1 : d.d.dvs K = [] := by unfold He.DefD.dvs; rw [List.isEmpty_iff.mp h3]; rfl
  have e2 : d.d.kws K = [] := by unfold He.DefD.kws; rw [List.isEmpty_iff.mp h4]; rfl
  rw [e1, e2] at FD
  exact FD
theorem lev_at (F : Facts T K mg) (X : Texts T tabN) {G : Gd} {k : Nat} {tab : Tab} (V : Lev T K mg P w base G k tab) {i n : Nat} {p : Str × Option Str} (h : atB T i n p = true) :
    ∃ fd ps, Binds K fd ps [] ∧ ps.length = n ∧ PySem.W.keepIn K (.ref (He.fAd K p)) = true ∧ FnOk P w K mg base (L2.CX P w) k (He.fAd K p) fd ps (spF G n (tOf i tab)) := by
  obtain ⟨d, hd, hat, hps⟩ := atB_ok h
  obtain ⟨_, _, fd, FD⟩ := F.dat X.ok hd
  have ok := V i d hd fd FD
  have kp := FD.kp
  rw [hat, hps] at ok
  rw [hat] at kp
  exact ⟨fd, d.ps, FD.bindsN (X.bd d (List.mem_of_getElem? hd)), hps, kp, ok⟩
theorem pok (F : Facts T K mg) (X : Texts T tabN) {k : Nat} {tab : Tab} {d : Dat} (V : Lev T K mg P w base (T.gd X.ok P w K F.sees.cls) k tab) : POk P w K mg base (T.gd X.ok P w K F.sees.cls) k (T.cc d tab) := by
  have S := F.sees
  refine ⟨fun x n a h => ?_, fun x cl n a h => ?_, fun m n l h cl a C hm hC => ?_, fun nm i h => numb_at h, fun x v h => ?_, fun x i h => ?_, fun cl C f nm h hC hn => ?_, fun l hl => ?_⟩
  · obtain ⟨p, hp, e⟩ := List.mem_map.mp (lookup_in h)
    cases e
    obtain ⟨h1, h2⟩ := ba2 (List.all_eq_true.mp X.ok.fns p hp)
    obtain ⟨fd, ps, b, l, kp, ok⟩ := lev_at F X V h2
    exact ⟨okD_ok h1, _, fd, ps, F.glo (List.all_eq_true.mp S.fns p hp), kp, b, l, ok⟩
  · obtain ⟨p, hp, e⟩ := List.mem_map.mp (lookup_in h)
    cases e
    obtain ⟨h1, h2⟩ := ba2 (List.all_eq_true.mp X.ok.mks p hp)
    obtain ⟨h2, h3⟩ := ba2 h2
    obtain ⟨fd, ps, b, l, kp, ok⟩ := lev_at F X V h2
    obtain ⟨s1, s2⟩ := ba2 (List.all_eq_true.mp S.mks p hp)
    refine ⟨okD_ok h1, He.ga K p.1, _, fd, ps, F.glo s1, ?_, He.mkr_ok s2, b, l, ok⟩
    show (T.cls.map (He.ga K))[p.2.1]? = _
    rw [List.getElem?_map, of_decide_eq_true h3]; rfl
  · obtain ⟨p, hp, e⟩ := List.mem_map.mp (lookup_in h)
    cases e
    obtain ⟨q, hq, e⟩ := List.mem_map.mp hm
    cases e
    have o := List.all_eq_true.mp (List.all_eq_true.mp X.ok.mts p hp) q hq
    have s := List.all_eq_true.mp (show mtsB T K p.1 p.2.2 = true from List.all_eq_true.mp S.mts p hp) q hq
    have hC : (T.cls.map (He.ga K))[q.1]? = some C := hC
    rw [List.getElem?_map] at hC
    cases e : T.cls[q.1]? with
    | none => rw [e] at hC; cases hC
    | some x =>
      rw [e] at hC
      cases hC
      rw [e] at o s
      obtain ⟨fd, ps, b, l, kp, ok⟩ := lev_at F X V o
      exact ⟨_, fd, ps, He.meth_ok s, b, l, ok⟩
  · have hp := lookup_in h
    have h1 := List.all_eq_true.mp X.ok.cons _ hp
    have s := List.all_eq_true.mp S.cons _ hp
    have s : conV K x v = true := s
    unfold conV at s
    cases e : PySem.W.nsIn K mainGlobals x with
    | none => rw [e] at s; cases s
    | some r =>
      rw [e] at s
      cases r with
      | none => cases s
      | some u =>
        obtain ⟨t, r1, r2⟩ := valB_ok 30 s
        obtain ⟨h', X', G'⟩ := F.at'
        exact ⟨okD_ok h1, t, u, PySem.W.mg_of X' G' e, r1, r2⟩
  · obtain ⟨j, e0, hx⟩ := numb_mem (lookup_in h)
    rw [Nat.zero_add] at e0
    subst e0
    have hm := List.mem_of_getElem? hx
    obtain ⟨s1, s2⟩ := ba2 (List.all_eq_true.mp S.excs x hm)
    obtain ⟨q1, q2, q3, q4⟩ := He.exc_ok s2
    refine ⟨okD_ok (List.all_eq_true.mp X.ok.excs x hm), He.ga K x, He.veBase, "ValueError", "ValueError.__new__", "ValueError.__init__", PySem.F.excBase_ValueError, q1, F.glo s1, q2, ?_, q3, q4, fun c C hC => ?_⟩
    · show (T.excs.map (He.ga K))[i]? = _
      rw [List.getElem?_map, hx]; rfl
    · have hC : (T.excs.map (He.ga K))[c]? = some C := hC
      rw [List.getElem?_map] at hC
      cases e : T.excs[c]? with
      | none => rw [e] at hC; cases hC
      | some y =>
        rw [e] at hC
        cases hC
        have num : ∀ {l : List Str} {n j : Nat} {z : Str}, l[j]? = some z → (z, n + j) ∈ numb l n := by
          intro l
          induction l with
          | nil => intro n j z h; simp at h
          | cons a l ih => intro n j z h; cases j with
            | zero => simp at h; subst h; exact List.mem_cons_self
            | succ j =>
              have := ih (n := n + 1) (j := j) (z := z) (by simpa using h)
              rw [show n + (j + 1) = n + 1 + j by omega]
              exact List.mem_cons_of_mem _ this
        have a1 := num (n := 0) e
        have a2 := num (n := 0) hx
        rw [Nat.zero_add] at a1 a2
        have := List.all_eq_true.mp (List.all_eq_true.mp S.exm _ a1) _ a2
        exact He.exm_ok this
  · have hC : (T.cls.map (He.ga K))[cl]? = some C := hC
    rw [List.getElem?_map] at hC
    cases e : T.cls[cl]? with
    | none => rw [e] at hC; cases hC
    | some x =>
      rw [e] at hC
      cases hC
      exact noas_ok S.noa h e hn
  · obtain ⟨h', X', G'⟩ := F.at'
    exact He.free_ok X' G' (List.all_eq_true.mp S.bn l hl)
theorem lev (F : Facts T K mg) (X : Texts T tabN) : ∀ m, Lev T K mg P w base (T.gd X.ok P w K F.sees.cls) (2 * m) (tabL tabN m)
  | 0 => fun i d hd fd FD => by
    show FnOk P w K mg base (L2.CX P w) _ _ fd d.ps (spF _ d.ps.length (tOf i tabBad))
    rw [tBad]
    exact fnOk_bad
  | m + 1 => fun i d hd fd FD => by
    have V := lev F X m
    show FnOk P w K mg base (L2.CX P w) _ _ fd d.ps (spF _ d.ps.length (tOf i (tabN (tabL tabN m))))
    rw [X.at' hd]
    obtain ⟨S, h9, _⟩ := F.dat X.ok hd
    cases hb : d.b with
    | none =>
      have : d.f (tabL tabN m) = fnBad := by unfold Dat.f; rw [hb]
      rw [this]
      exact fnOk_bad
    | some b =>
      obtain ⟨oc, od, dV, kV, doc, pm, an, cdv, ct, osl, rfl, lk, hcd, _, _⟩ := FD.ex
      have ok := fn_den (G := T.gd X.ok P w K F.sees.cls) (c := T.cc d (tabL tabN m)) rfl rfl rfl ⟨lk, hcd, S⟩ h9 (pok F X V) rfl rfl rfl (X.rd _ d (List.mem_of_getElem? hd) b hb)
      cases hp : d.p with
      | false =>
        have : d.f (tabL tabN m) = fnI (parS d.ps.length) (sSeq (b (tabL tabN m))) := by unfold Dat.f; rw [hb, hp]
        rw [this]; exact ok
      | true =>
        have : d.f (tabL tabN m) = fnP (parS d.ps.length) (sSeq (b (tabL tabN m))) := by unfold Dat.f; rw [hb, hp]
        rw [this]; exact fn_soundP ok
end
end FP
end
section
namespace FP
open PySem PySem.Spec PyProof.Rows L2 PySem.SeqAt

/-- a heap of one list of three numbers -/
def eta3 (x y z : Int) : He := ⟨1, .nd (.lst [.int x, .int y, .int z]) .nil .nil⟩
/-- where a part ends: some names, the heap's thing at t -/
def prj (L : List Nat) (t : Nat) (x : Rst) : Option (List (Option Vl) × Option Ob) := match x with
  | .ok f h => match f with
    | .nx r => some (L.map fun i => gOf i r, h.get t)
    | _ => none
  | _ => none
/-- a part ends the law well -/
def prT (x : Rst) : Bool := match x with
  | .ok f _ => match f with
    | .rt v => match v with
      | .bl b => b
      | _ => false
    | _ => false
  | _ => false
def cutS (fs : List EvS) (i n : Nat) : EvS := sSeq ((fs.drop i).take n)
end FP
end
section
namespace FP
open PySem PySem.Spec PyProof.Rows L2 PySem.SeqAt

section
variable {X : Cx} {G : Gd} {k : Nat} {c : Cc}
inductive SSl (X : Cx) (G : Gd) : List Stmt → List EvS → Prop where
  | nil : SSl X G [] []
  | cons {st : Stmt} {sts : List Stmt} {f : EvS} {fs : List EvS} (h : SS X G st f) (t : SSl X G sts fs) : SSl X G (st :: sts) (f :: fs)
theorem den_all : ∀ (n : Nat) {sts : List Stmt} {fs : List EvS}, SOk X G k c → (denS n).ss c sts = some fs → SSl X G sts fs
  | 0, _, _, _, e => nomatch e
  | n + 1, [], fs, h, e => by cases e; exact .nil
  | n + 1, st :: sts, fs, h, e => by
    have e : (oM ((denS n).s c st) fun f => oM ((denS n).ss c sts) fun fs => some (f :: fs)) = some fs := e
    obtain ⟨f, h1, e⟩ := oM_some e
    obtain ⟨gs, h2, e⟩ := oM_some e
    cases e
    exact .cons ((denS_ok n).s h h1) (den_all n h h2)
/-- statements one by one, then t -/
def tAll (G : Gd) (n : Nat) (W : WX) : List EvS → TS → TS
  | [], t => t
  | f :: fs, t => tSeq (rs G n W f) (tAll G n W fs t)
theorem pss_all {W : WX} (tk : Takes X W) : ∀ {sts : List Stmt} {fs : List EvS}, SSl X G sts fs → PSs X sts (tAll G X.N.length W fs tNext)
  | _, _, .nil => pss_nil
  | _, _, .cons h t => pss_cons (h W tk) (pss_all tk t)
end
section
variable {G : Gd} {n : Nat} {W : WX}
theorem tAll_app : ∀ (fs gs : List EvS) (t : TS), tAll G n W (fs ++ gs) t = tAll G n W fs (tAll G n W gs t)
  | [], gs, t => rfl
  | f :: fs, gs, t => by show tSeq _ (tAll G n W (fs ++ gs) t) = tSeq _ _; rw [tAll_app fs gs t]
theorem rs_mono {f : EvS} {D D' : Ends} {σ : L2.St} {H : Hp} (h : rs G n W f D σ H) (hn : ∀ σ H, D.nx σ H → D'.nx σ H) (hr : ∀ v H, D.rt v H → D'.rt v H) (hb : ∀ σ H, D.bk σ H → D'.bk σ H) (hc : ∀ σ H, D.ct σ H → D'.ct σ H) : rs G n W f D' σ H := by
  obtain ⟨φ, η, r, S, E, p⟩ := h
  refine ⟨φ, η, r, S, E, ?_⟩
  cases hf : f r η with
  | bad m => rw [hf] at p; exact p
  | ex c v r' η' => rw [hf] at p; exact p
  | ok fl η' =>
    rw [hf] at p
    cases fl with
    | nx r' => exact fun φ' H' σ' e S' E' => hn _ _ (p φ' H' σ' e S' E')
    | rt v => exact fun φ' H' w e S' r => hr _ _ (p φ' H' w e S' r)
    | bk r' => exact fun φ' H' σ' e S' E' => hb _ _ (p φ' H' σ' e S' E')
    | ct r' => exact fun φ' H' σ' e S' E' => hc _ _ (p φ' H' σ' e S' E')
theorem all_run : ∀ (fs : List EvS) {t : TS} {D : Ends} {σ : L2.St} {H : Hp}, rs G n W (sSeq fs) { D with nx := t D } σ H → tAll G n W fs t D σ H
  | [], t, D, σ, H, ⟨φ, η, r, S, E, p⟩ => p φ H σ Evo.refl S E
  | f :: fs, t, D, σ, H, h => by
    have h2 := rs_nxt (k := sSeq fs) (f := f) h
    exact rs_mono h2 (fun σ H q => all_run fs q) (fun _ _ q => q) (fun _ _ q => q) (fun _ _ q => q)
/-- where a part stands: names, a heap of one list of three numbers -/
def At (G : Gd) (n : Nat) (r : Env) (x y z : Int) (σ : L2.St) (H : Hp) : Prop := ∃ a, Sim G [a] (eta3 x y z) H ∧ EnvR G n [a] H r σ
theorem ints_rel {K : PySem.W.Frag} {φ φ' : List Addr} {H : Hp} : ∀ {is : List Int} {vs : List V}, RVs K φ H (is.map .int) vs → RVs K φ' H (is.map .int) vs := fun {is vs} h =>
  ⟨h.1, fun i x v h1 h2 => by
    have r := h.2 i x v h1 h2
    rw [List.getElem?_map] at h1
    cases e : is[i]? with
    | none => rw [e] at h1; cases h1
    | some j => rw [e] at h1; cases h1; cases r; exact .int j⟩
def loc0 (u : Vl) : Bool := match u with
  | .loc m => Nat.beq m 0
  | _ => false
def plnB (e : Bool) (u : Vl) : Bool := match e with
  | true => loc0 u
  | false => noLoc 60 u
/-- names that hold plain values, but for the list -/
def plainE (L : List Nat) (tin : Nat) (r : Env) : Bool := (List.range 49).all fun i => match gOf i r with
  | none => true
  | some x => L.elem i && plnB (Nat.beq i tin) x
theorem map_at {α β : Type} {f g : α → β} : ∀ {L : List α}, L.map f = L.map g → ∀ i ∈ L, f i = g i
  | [], _, _, m => nomatch m
  | a :: L, h, i, m => by
    injection h with h1 h2
    rcases List.mem_cons.mp m with rfl | m
    · exact h1
    · exact map_at h2 i m
/-- on a part's end, at another state -/
theorem at_next {r r' : Env} {t tin : Nat} {L : List Nat} {x y z : Int} {φ' : List Addr} {η' : He} {H' : Hp} {σ' : L2.St} (S' : Sim G φ' η' H') (E' : EnvR G n φ' H' r' σ') (hp : plainE L tin r = true) (ht : tin < 49) (htr : gOf tin r = some (.loc 0)) (htr' : gOf tin r' = some (.loc t))
    (h : ∀ i ∈ L, i ≠ tin → gOf i r' = gOf i r) (hg : η'.get t = some (.lst [.int x, .int y, .int z])) : At G n r x y z σ' H' := by
  obtain ⟨v, hv, rv⟩ := E'.at' tin _ htr' ht
  cases rv with
  | @loc _ a ha =>
    obtain ⟨o, h1, h2⟩ := S'.ob t a ha
    rw [hg] at h1
    cases h1
    obtain ⟨vs, h3, h4⟩ := h2
    refine ⟨a, ⟨rfl, List.nodup_cons.mpr ⟨List.not_mem_nil, List.nodup_nil⟩, fun i b hb => ?_⟩, E'.len, fun i u hu hi => ?_⟩
    · cases i with
      | zero => cases hb; exact ⟨_, rfl, vs, h3, ints_rel (is := [x, y, z]) h4⟩
      | succ i => simp at hb
    · have q := List.all_eq_true.mp hp i (List.mem_range.mpr hi)
      rw [hu] at q
      have q : (L.elem i && plnB (Nat.beq i tin) u) = true := q
      rw [Bool.and_eq_true] at q
      obtain ⟨q1, q2⟩ := q
      have mi : i ∈ L := List.elem_iff.mp q1
      by_cases e : i = tin
      · subst e
        rw [htr] at hu
        cases hu
        exact ⟨_, hv, .loc rfl⟩
      · have e2 : Nat.beq i tin = false := by
          cases z : Nat.beq i tin with
          | false => rfl
          | true => exact absurd (Nat.eq_of_beq_eq_true z) e
        rw [e2] at q2
        have e3 := h i mi e
        rw [hu] at e3
        obtain ⟨w, hw, rw'⟩ := E'.at' i u e3 hi
        exact ⟨w, hw, noLoc_rel 60 q2 rw'⟩
/-- a part's step -/
theorem part_run {fs : List EvS} {t : TS} {D : Ends} {σ : L2.St} {H : Hp} {r r2 : Env} {L : List Nat} {tin : Nat} {x y z : Int} (A : At G n r x y z σ H) (hp : plainE L tin r2 = true) (ht : tin < 49) (hL : tin ∈ L) (htr : gOf tin r2 = some (.loc 0))
    (h : prj L 0 (sSeq fs r (eta3 x y z)) = some (L.map fun i => gOf i r2, some (.lst [.int x, .int y, .int z]))) (k : ∀ σ' H', At G n r2 x y z σ' H' → t D σ' H') : tAll G n W fs t D σ H := by
  refine all_run fs ?_
  obtain ⟨a, S, E⟩ := A
  refine ⟨[a], eta3 x y z, r, S, E, ?_⟩
  cases hf : sSeq fs r (eta3 x y z) with
  | bad m => rw [hf] at h; cases h
  | ex c v r' η' => rw [hf] at h; cases h
  | ok fl η' =>
    rw [hf] at h
    cases fl with
    | nx r' =>
      have h : (some (L.map fun i => gOf i r', η'.get 0) : Option (List (Option Vl) × Option Ob)) = some (L.map fun i => gOf i r2, some (.lst [.int x, .int y, .int z])) := h
      simp only [Option.some.injEq, Prod.mk.injEq] at h
      have hm := map_at h.1
      exact fun φ' H' σ' e S' E' => k σ' H' (at_next S' E' hp ht htr ((hm tin hL).trans htr) (fun i m _ => hm i m) h.2)
    | rt v => cases h
    | bk r' => cases h
    | ct r' => cases h
/-- .. the last one -/
theorem part_end {fs : List EvS} {D : Ends} {σ : L2.St} {H : Hp} {r : Env} {φ : List Addr} {η : He} (S : Sim G φ η H) (E : EnvR G n φ H r σ) (h : prT (sSeq fs r η) = true) (k : ∀ H', D.rt (.bl true) H') : tAll G n W fs tNext D σ H := by
  refine all_run fs ⟨φ, η, r, S, E, ?_⟩
  cases hf : sSeq fs r η with
  | bad m => rw [hf] at h; cases h
  | ex c v r' η' => rw [hf] at h; cases h
  | ok fl η' =>
    rw [hf] at h
    cases fl with
    | nx r' => cases h
    | rt v =>
      cases v with
      | bl b =>
        have h : b = true := h
        subst h
        intro φ' H' w e S' rv
        cases rv
        exact k H'
      | _ => cases h
    | bk r' => cases h
    | ct r' => cases h
end
section
variable {T : Top} {K : PySem.W.Frag} {mg : Str → Option Value} {P : Program} {w : World} {base : Heap} {tabN : Tab → Tab}
def spLaw (K : PySem.W.Frag) : Sp := fun vs H Q _ => ∃ (a : Addr) (ns : List Int), ns.length ≤ 63 ∧ vs = [.ref a] ∧ SqL K H a (ns.map V.int) ∧ ∀ H', Q (.bl true) H'
theorem law_fn (F : Facts T K mg) (X : Texts T tabN) (m : Nat) {i : Nat} {d : Dat} {x : Str} {fs : List EvS} (hd : T.dats[i]? = some d) (hx : d.ps = [x]) (hr : Reads T (tabL tabN m) d fs)
    (run : ∀ (W : WX) (a : Addr) (ns : List Int) (H : Hp) (Q : VK), ns.length ≤ 63 → SqL K H a (ns.map V.int) → (∀ H', Q (.bl true) H') → tAll (T.gd X.ok P w K F.sees.cls) d.N.length W fs tNext { nx := fun _ H' => Q .non H', rt := Q } (start d.N [.ref a]) H) :
    ∀ fd, FunD K d.d.name d.d.qual d.d.params d.d.body d.d.scope [] [] (He.fAd K d.d.at_) fd → FnOk P w K mg base (L2.CX P w) (2 * m + 2) (He.fAd K d.d.at_) fd [x] (spLaw K) := fun fd FD => by
  obtain ⟨S, h9, _⟩ := F.dat X.ok hd
  rw [hx] at S
  refine FD.ok S (fun vs H Q E h => by obtain ⟨a, ns, _, rfl, _⟩ := h; rfl) fun cdv A outer s H vs Q E hroom h => ?_
  obtain ⟨a, ns, hl, rfl, hS, hQ⟩ := h
  have tk : Takes (cxOf (L2.CX P w) P w K mg base d.N d.d.qual d.d.scope (He.fAd K d.d.at_) cdv A outer s H E) (fun cls d _ H => E cls d H) := takes_of (E := E) rfl rfl rfl rfl
  have so : SOk (cxOf (L2.CX P w) P w K mg base d.N d.d.qual d.d.scope (He.fAd K d.d.at_) cdv A outer s H E) (T.gd X.ok P w K F.sees.cls) (2 * m) (T.cc d (tabL tabN m)) := by
    refine { O := ⟨rfl, rfl, rfl, rfl, S.nd, h9, ?_⟩, room := hroom, N := rfl, sc := rfl, kd := S.kind, fnb := fun x => rfl, P := pok F X (lev F X m), own := passes_of rfl, stk := rfl, frm := rfl }
    exact hroom.units
  exact ⟨_, pss_all tk (den_all 90 so hr), run _ a ns H Q hl hS hQ⟩
end
end FP
end
section
namespace FP
open PySem PySem.Spec PyProof.Rows L2 PySem.SeqAt

def bBox : List EvS := [
  sAsg (gNm s2) (eIte (tBl (e2 pLt (eVar g1) (e1 pLen (eVar g0)))) (e2 pIndex (eVar g0) (eVar g1)) (eCst (.int 0))),
  sRet (eQ qList (qCons (e2 pMul (e1 pAbs (eVar g2)) (e1 pInt (e2 pGe (e1 pAbs (eVar g2)) (e2 pPow (eCst (.int 10)) (eCst (.int 18)))))) (qCons (e2 pAdd (e2 pAdd (e2 pMod (e1 pInt (eVar g2)) (eCst (.int 2305843009213693951))) (e2 pMul (eCst (.int 39373)) (eVar g1))) (eCst (.int 2321777))) (qCons (eCst (.int 0)) qNil))))]
def bTake : List EvS := [
  sIf (tBl (e2 pGt (e2 pIndex (eVar g0) (eCst (.int 0))) (eCst (.int 0)))) (sSeq [sAsg (gNm s2) (e2 pMod (e1 pInt (e2 pIndex (eVar g0) (eCst (.int 0)))) (eVar g1)), sAsg (gSub (eVar g0) (eCst (.int 0))) (e2 pFdiv (e2 pIndex (eVar g0) (eCst (.int 0))) (eVar g1)), sRet (eVar g2)]) (sSeq []),
  sAsg (gSub (eVar g0) (eCst (.int 2))) (e2 pAdd (e2 pIndex (eVar g0) (eCst (.int 2))) (eCst (.int 1))),
  sAsg (gNm s3) (e2 pMod (e1 pInt (e2 pMul (e2 pAdd (e2 pIndex (eVar g0) (eCst (.int 1))) (e2 pMul (eCst (.int 48271)) (e2 pIndex (eVar g0) (eCst (.int 2))))) (e2 pAdd (eCst (.int 39373)) (e2 pIndex (eVar g0) (eCst (.int 2)))))) (eCst (.int 2147483647))),
  sAsg (gNm s4) (e2 pAdd (e2 pMod (e1 pInt (eVar g3)) (eCst (.int 40009))) (eCst (.int 7))),
  sAsg (gNm s5) (e2 pMod (e1 pInt (e2 pMul (e2 pAdd (e2 pAdd (eVar g3) (e2 pIndex (eVar g0) (eCst (.int 2)))) (e2 pFdiv (e2 pIndex (eVar g0) (eCst (.int 1))) (eCst (.int 1000003)))) (eVar g4))) (eCst (.int 2147483629))),
  sRet (e2 pMod (e1 pInt (e2 pFdiv (e2 pMod (e1 pInt (e2 pAdd (e2 pMul (eVar g5) (eCst (.int 48271))) (eVar g3))) (eCst (.int 2147483587))) (eCst (.int 64)))) (eVar g1))]
def bCells : List EvS := [
  sAsg (gNm s2) (eOr (eQ qList (qKeys (eSlice (eVar g0) (eCst .non) (eVar g1)))) (eQ qList (qCons (eCst (.int 0)) qNil))),
  sFor (iEnum (eSlice (eVar g0) (eVar g1) (eCst (.int 63)))) (gTup [gNm s3, gNm s4]) (sSeq [sAsg (gNm s5) (e2 pMod (e1 pInt (eVar g3)) (eVar g1)), sAsg (gSub (eVar g2) (eVar g5)) (e2 pAdd (e2 pIndex (eVar g2) (eVar g5)) (e2 pMul (eVar g4) (e2 pAdd (eVar g3) (eCst (.int 2)))))]),
  sRet (eVar g2)]
section
variable {h : He} {r : Env}
theorem mod_ev {i j : Int} (hj : ibeq j 0 = false) : pMod (.int i) (.int j) h = .ok (.int (Int.fmod i j)) h := by
  show (match ibeq j 0 with | true => _ | false => frI (Int.fmod i j) fun r => Rs.ok (Vl.int r) h) = _
  rw [hj]; exact frI_eq _ _
theorem fdiv_ev {i j : Int} (hj : ibeq j 0 = false) (hd : divs j = true) : pFdiv (.int i) (.int j) h = .ok (.int (Int.fdiv i j)) h := by
  show (match ibeq j 0 with | true => _ | false => match divs j with | true => frI (Int.fdiv i j) fun r => Rs.ok (Vl.int r) h | false => _) = _
  rw [hj, hd]; exact frI_eq _ _
theorem add_ev {i j : Int} : pAdd (.int i) (.int j) h = .ok (.int (i + j)) h := by
  show (iadd i j fun r => Rs.ok (Vl.int r) h) = _
  exact iadd_eq _ _ _
theorem mul_ev {i j : Int} (f : fits i j = true) : pMul (.int i) (.int j) h = .ok (.int (i * j)) h := by
  show (match fits i j with | true => imul i j fun r => Rs.ok (Vl.int r) h | false => _) = _
  rw [f]; exact imul_eq _ _ _
theorem gt_ev {i j : Int} : pGt (.int i) (.int j) h = .ok (.bl (decide (j < i))) h := by
  show Rs.ok (Vl.bl (iblt j i)) h = _
  rw [iblt_eq]
theorem fits_r {i j : Int} (f : small64 j = true) : fits i j = true := by
  unfold fits; rw [f]; cases small64 i <;> rfl
theorem fits_l {i j : Int} (f : small64 i = true) : fits i j = true := by
  unfold fits; rw [f]
theorem small_of {i : Int} (h0 : 0 ≤ i) (h1 : i < 18446744073709551616) : small64 i = true := by
  cases i with
  | ofNat n => show Nat.blt n 18446744073709551616 = true; exact Nat.blt_eq.mpr (by simp at h1; omega)
  | negSucc n => exact absurd h0 (by simp)
theorem ix3 {p : Nat} {a b c : Vl} (hg : h.get p = some (.lst [a, b, c])) : pIndex (.loc p) (.int 0) h = .ok a h ∧ pIndex (.loc p) (.int 1) h = .ok b h ∧ pIndex (.loc p) (.int 2) h = .ok c h := by
  unfold pIndex
  simp only [hg]
  exact ⟨rfl, rfl, rfl⟩
theorem setIx3 {p : Nat} {a b c v : Vl} {k : He → Rs Env} (hg : h.get p = some (.lst [a, b, c])) : setIx (.loc p) (.int 0) v h k = k (h.set p (.lst [v, b, c])) ∧ setIx (.loc p) (.int 2) v h k = k (h.set p (.lst [a, b, v])) := by
  unfold setIx
  simp only [hg]
  exact ⟨rfl, rfl⟩
theorem get_set3 {p : Nat} {o u : Ob} (hg : h.get p = some u) : (h.set p o).get p = some o := Hr.get_set _ _ _ _ hg
theorem take_ok {p b : Nat} {x y z : Int} (hg : h.get p = some (.lst [.int x, .int y, .int z])) (hb : 0 < b) (hb2 : b < 1000000) (hz : 0 ≤ z) (hz2 : z < 1000000) :
    ∃ d x' z' : Int, 0 ≤ d ∧ d < b ∧ 0 ≤ z' ∧ z' ≤ z + 1 ∧ fnI [s0, s1] (sSeq bTake) [.loc p, .int b] h = .ok (.int d) (h.set p (.lst [.int x', .int y, .int z'])) := by
  have hj : ibeq (b : Int) 0 = false := by rw [ibeq_eq]; exact decide_eq_false (by omega)
  have hd : divs (b : Int) = true := by
    unfold divs
    have : small30 (b : Int) = true := Nat.blt_eq.mpr (by omega)
    rw [this]
  obtain ⟨i0, i1, i2⟩ := ix3 hg
  by_cases hx : 0 < x
  · refine ⟨Int.fmod x b, Int.fdiv x b, z, Int.fmod_nonneg_of_pos _ (by omega), Int.fmod_lt_of_pos _ (by omega), hz, by omega, ?_⟩
    have hdx : decide (0 < x) = true := decide_eq_true hx
    simp only [fnI, bindL, bTake, sSeq, sIf, tBl, e2, e1, eVar, eCst, Rs.bind, Rs.toS, Rst.nxt, s0, s1, g0, g1, g2, s2, env0, rep7, i0, gt_ev, hdx, sAsg, mod_ev hj, fdiv_ev hj hd, pInt, gNm, Rs.toN, gSub, Rs.bindN, (setIx3 hg).1, sRet, endB]
  · have hdx : decide (0 < x) = false := decide_eq_false hx
    have hg2 : (h.set p (.lst [.int x, .int y, .int (z + 1)])).get p = some (.lst [.int x, .int y, .int (z + 1)]) := get_set3 hg
    obtain ⟨j0, j1, j2⟩ := ix3 hg2
    have s1' : small64 (39373 + (z + 1)) = true := small_of (by omega) (by omega)
    have s2' : small64 (z + 1) = true := small_of (by omega) (by omega)
    have h7 : ∀ i : Int, small64 (Int.fmod i 40009 + 7) = true := fun i => by
      have a := Int.fmod_nonneg_of_pos i (show (0 : Int) < 40009 by omega)
      have b := Int.fmod_lt_of_pos i (show (0 : Int) < 40009 by omega)
      exact small_of (by omega) (by omega)
    have h8 : small64 (48271 : Int) = true := rfl
    have q1 : ibeq (2147483647 : Int) 0 = false := rfl
    have q2 : ibeq (40009 : Int) 0 = false := rfl
    have q3 : ibeq (2147483629 : Int) 0 = false := rfl
    have q4 : ibeq (2147483587 : Int) 0 = false := rfl
    have q5 : ibeq (64 : Int) 0 = false := rfl
    have q6 : ibeq (1000003 : Int) 0 = false := rfl
    have d5 : divs (64 : Int) = true := rfl
    have d6 : divs (1000003 : Int) = true := rfl
    obtain ⟨w, hw⟩ : ∃ w : Int, fnI [s0, s1] (sSeq bTake) [.loc p, .int b] h = .ok (.int (Int.fmod w b)) (h.set p (.lst [.int x, .int y, .int (z + 1)])) := by
      apply Exists.intro
      simp only [fnI, bindL, bTake, sSeq, sIf, tBl, e2, e1, eVar, eCst, Rs.bind, Rs.toS, Rst.nxt, s0, s1, g0, g1, g2, g3, g4, g5, s2, s3, s4, s5, env0, rep7, i0, i2, gt_ev, hdx, sAsg, mod_ev hj, mod_ev q1, mod_ev q2, mod_ev q3, mod_ev q4, fdiv_ev q5 d5, fdiv_ev q6 d6, add_ev, mul_ev (fits_r s1'), mul_ev (fits_l h8), mul_ev (fits_r h8), mul_ev (fits_r (h7 _)), pInt, gNm, Rs.toN, gSub, Rs.bindN, (setIx3 hg).2, j0, j1, j2, sRet, endB]
      rfl
    exact ⟨Int.fmod w b, x, z + 1, Int.fmod_nonneg_of_pos _ (by omega), Int.fmod_lt_of_pos _ (by omega), by omega, by omega, hw⟩
def Full (h : He) : Prop := ∀ q, q < h.n → ∃ u, h.get q = some u
def He.app (h : He) (o : Ob) : He := ⟨h.n + 1, h.t.set h.n o⟩
theorem newL_ev {xs : List Vl} : newL xs h = .ok (.loc h.n) (h.app (.lst xs)) := He.new_eq _ _ _
theorem app_at (F : Full h) {o : Ob} : (h.app o).get h.n = some o := Hr.get_new _ _ _ F
theorem app_old {o : Ob} {q : Nat} (hq : q < h.n) : (h.app o).get q = h.get q := Hr.get_set_ne _ _ _ _ (by omega)
theorem app_full (F : Full h) {o : Ob} : Full (h.app o) := fun q hq => by
  have hq : q < h.n + 1 := hq
  by_cases e : q = h.n
  · subst e; exact ⟨o, app_at F⟩
  · rw [app_old (by omega)]; exact F q (by omega)
theorem set_old {o : Ob} {p q : Nat} (hq : q ≠ p) : (h.set p o).get q = h.get q := Hr.get_set_ne _ _ _ _ hq
theorem set_full (F : Full h) {p : Nat} {o u : Ob} (hp : h.get p = some u) : Full (h.set p o) := fun q hq => by
  by_cases e : q = p
  · subst e; exact ⟨o, get_set3 hp⟩
  · rw [set_old e]; exact F q hq
theorem abs_ev {i : Int} : pAbs (.int i) h = .ok (.int (i.natAbs : Int)) h := by cases i <;> rfl
theorem ge_ev {i j : Int} : pGe (.int i) (.int j) h = .ok (.bl (ible j i)) h := rfl
theorem pow_ev : pPow (.int 10) (.int 18) h = .ok (.int 1000000000000000000) h := by kernel_rfl
theorem b2i_small (b : Bool) : small64 (b2i b) = true := by cases b <;> rfl
theorem intb_ev {b : Bool} : pInt (.bl b) h = .ok (.int (b2i b)) h := rfl
theorem inti_ev {i : Int} : pInt (.int i) h = .ok (.int i) h := rfl
theorem box_ok (F : Full h) {q : Nat} {c : Int} (hg : h.get q = some (.lst [.int c])) : ∃ x y : Int, fnI [s0, s1] (sSeq bBox) [.loc q, .int 0] h = .ok (.loc h.n) (h.app (.lst [.int x, .int y, .int 0])) := by
  have hl : pLen (.loc q) h = .ok (.int 1) h := by
    unfold pLen lenOf
    simp only [hg]
    rfl
  have hi : pIndex (.loc q) (.int 0) h = .ok (.int c) h := by
    unfold pIndex
    simp only [hg]
    rfl
  have hlt : pLt (.int 0) (.int 1) h = .ok (.bl true) h := rfl
  have q1 : ibeq (2305843009213693951 : Int) 0 = false := rfl
  have h8 : small64 (39373 : Int) = true := rfl
  apply Exists.intro
  apply Exists.intro
  simp only [fnI, bindL, bBox, sSeq, sIf, tBl, e2, e1, eVar, eCst, Rs.bind, Rs.toS, Rst.nxt, s0, s1, g0, g1, g2, s2, env0, rep7, sAsg, eIte, hl, hi, hlt, gNm, Rs.toN, sRet, eQ, qCons, qNil, abs_ev, ge_ev, pow_ev, intb_ev, inti_ev, mul_ev (fits_r (b2i_small _)), mod_ev q1, mul_ev (fits_l h8), add_ev, qList, newL_ev, endB]
  rfl
/-- the list, or a list that nothing changes -/
def SeqV (h : He) (v : Vl) (is : List Int) : Prop := v = .fl (is.map .int) ∨ ∃ q, v = .loc q ∧ q < h.n ∧ h.get q = some (.lst (is.map .int))
theorem SeqV.sl {v : Vl} {is : List Int} (S : SeqV h v is) (i j : Option Int) : pSl v i j h = .ok (.loc h.n) (h.app (.lst (cutL (is.map .int) i j))) := by
  rcases S with rfl | ⟨q, rfl, _, hg⟩
  · exact newL_ev
  · unfold pSl
    simp only [hg]
    exact newL_ev
theorem SeqV.app {v : Vl} {is : List Int} (S : SeqV h v is) {o : Ob} : SeqV (h.app o) v is := by
  rcases S with rfl | ⟨q, rfl, hq, hg⟩
  · exact .inl rfl
  · exact .inr ⟨q, rfl, Nat.lt_succ_of_lt hq, by rw [app_old hq]; exact hg⟩
def bLoop : List EvS := [sAsg (gNm s5) (e2 pMod (e1 pInt (eVar g3)) (eVar g1)), sAsg (gSub (eVar g2) (eVar g5)) (e2 pAdd (e2 pIndex (eVar g2) (eVar g5)) (e2 pMul (eVar g4) (e2 pAdd (eVar g3) (eCst (.int 2)))))]
theorem cut1 {l : List Vl} : cutL l none (some 1) = l.take 1 := by
  cases l with
  | nil => rfl
  | cons x l => show (x :: l).take (Nat.min 1 (l.length + 1)) = _; rw [show Nat.min 1 (l.length + 1) = 1 from Nat.min_eq_left (by omega)]
theorem loop_ok {q1 q2 : Nat} (hne : q1 ≠ q2) {is : List Int} (hl : is.length ≤ 1000) : ∀ (m i fuel : Nat) (r : Env) (h : He) (c : Int), is.length - i = m → m < fuel → Full h → r.a.b = some (.int 1) → r.a.c = some (.loc q1) → h.get q1 = some (.lst [.int c]) → h.get q2 = some (.lst (is.map .int)) →
    ∃ r' h' c', forL (gTup [gNm s3, gNm s4]) (sSeq bLoop) fuel (.enum i (.lst q2 i)) r h = .ok (.nx r') h' ∧ Full h' ∧ r'.a.c = some (.loc q1) ∧ h'.get q1 = some (.lst [.int c'])
  | m, i, 0, r, h, c, e, hf, F, k1, k2, hg1, hg2 => by omega
  | 0, i, fuel + 1, r, h, c, e, hf, F, k1, k2, hg1, hg2 => by
    have hn : next h (.enum i (.lst q2 i)) = .stop := by
      have : next h (.lst q2 i) = .stop := by
        unfold next
        simp only [hg2, nth_eq]
        rw [List.getElem?_eq_none (by rw [List.length_map]; omega)]
      unfold next
      simp only [this]
    refine ⟨r, h, c, ?_, F, k2, hg1⟩
    unfold forL
    rw [hn]
  | m + 1, i, fuel + 1, r, h, c, e, hf, F, k1, k2, hg1, hg2 => by
    have hi : i < is.length := by omega
    have hn : next h (.enum i (.lst q2 i)) = .item (.tup [.int (i : Int), .int is[i]]) (.enum (i + 1) (.lst q2 (i + 1))) := by
      have : next h (.lst q2 i) = .item (.int is[i]) (.lst q2 (i + 1)) := by
        unfold next
        simp only [hg2, nth_eq]
        rw [List.getElem?_map, List.getElem?_eq_getElem hi]
        rfl
      unfold next
      simp only [this]
      rfl
    have q1' : ibeq (1 : Int) 0 = false := rfl
    have fm : ∀ j : Int, Int.fmod j 1 = 0 := fun j => by
      have a := Int.fmod_nonneg_of_pos j (show (0 : Int) < 1 by omega)
      have b := Int.fmod_lt_of_pos j (show (0 : Int) < 1 by omega)
      omega
    have sk : small64 ((i : Int) + 2) = true := small_of (by omega) (by omega)
    have hix : pIndex (.loc q1) (.int 0) h = .ok (.int c) h := by
      unfold pIndex
      simp only [hg1]
      rfl
    have hset : ∀ (v : Vl) (k : He → Rs Env), setIx (.loc q1) (.int 0) v h k = k (h.set q1 (.lst [v])) := fun v k => by
      unfold setIx
      simp only [hg1]
      rfl
    obtain ⟨⟨ra, rb, rc, rd, re, rf, rg⟩, tb, tc, td, te, tf, tg⟩ := r
    have k1 : rb = some (.int 1) := k1
    have k2 : rc = some (.loc q1) := k2
    subst k1 k2
    have step : ∃ r2 : Env, ∃ c2 : Int, r2.a.b = some (.int 1) ∧ r2.a.c = some (.loc q1) ∧ ((gTup [gNm s3, gNm s4]) (.tup [.int (i : Int), .int is[i]]) ⟨⟨ra, some (.int 1), some (.loc q1), rd, re, rf, rg⟩, tb, tc, td, te, tf, tg⟩ h).toN (fun r h => ((sSeq bLoop) r h).loop fun r h => forL (gTup [gNm s3, gNm s4]) (sSeq bLoop) fuel (.enum (i + 1) (.lst q2 (i + 1))) r h) = forL (gTup [gNm s3, gNm s4]) (sSeq bLoop) fuel (.enum (i + 1) (.lst q2 (i + 1))) r2 (h.set q1 (.lst [.int c2])) := by
      refine ⟨⟨⟨ra, some (.int 1), some (.loc q1), some (.int (i : Int)), some (.int is[i]), some (.int 0), rg⟩, tb, tc, td, te, tf, tg⟩, c + is[i] * ((i : Int) + 2), rfl, rfl, ?_⟩
      simp only [gTup, seqOf, gEach, gNm, s3, s4, s5, Rs.bindN, Rs.toN, bLoop, sSeq, sAsg, e2, e1, eVar, eCst, g1, g2, g3, g4, g5, Rs.bind, inti_ev, mod_ev q1', fm, Rs.toS, Rst.nxt, hix, add_ev, mul_ev (fits_r sk), gSub, hset, Rst.loop]
    obtain ⟨r2, c2, a1, a2, hstep⟩ := step
    obtain ⟨r', h', c', w1, w2, w3, w4⟩ := loop_ok hne hl m (i + 1) fuel r2 (h.set q1 (.lst [.int c2])) c2 (by omega) (by omega) (set_full F hg1) a1 a2 (get_set3 hg1) (by rw [set_old (Ne.symm hne)]; exact hg2)
    refine ⟨r', h', c', ?_, w2, w3, w4⟩
    unfold forL
    rw [hn]
    exact hstep.trans w1
theorem cells_ok (F : Full h) {v : Vl} {is : List Int} (S : SeqV h v is) (hl : is.length ≤ 1000) : ∃ q c h', fnI [s0, s1] (sSeq bCells) [v, .int 1] h = .ok (.loc q) h' ∧ Full h' ∧ h'.get q = some (.lst [.int c]) := by
  -- the first list
  have first : ∃ q c h1, eOr (eQ qList (qKeys (eSlice (eVar g0) (eCst .non) (eVar g1)))) (eQ qList (qCons (eCst (.int 0)) qNil)) ⟨⟨some v, some (.int 1), none, none, none, none, none⟩, rep7 none, rep7 none, rep7 none, rep7 none, rep7 none, rep7 none⟩ h = .ok (.loc q) h1 ∧ Full h1 ∧ q < h1.n ∧ h1.get q = some (.lst [.int c]) ∧ SeqV h1 v is := by
    have F1 : Full (h.app (.lst (cutL (is.map .int) none (some 1)))) := app_full F
    have hk : keysOf (h.app (.lst (cutL (is.map .int) none (some 1)))) (.loc h.n) = some (cutL (is.map .int) none (some 1)) := by
      unfold keysOf
      simp only [app_at F]
    have F2 : Full ((h.app (.lst (cutL (is.map .int) none (some 1)))).app (.lst (cutL (is.map .int) none (some 1)))) := app_full F1
    have hg : ((h.app (.lst (cutL (is.map .int) none (some 1)))).app (.lst (cutL (is.map .int) none (some 1)))).get (h.app (.lst (cutL (is.map .int) none (some 1)))).n = some (.lst (cutL (is.map .int) none (some 1))) := app_at F1
    cases is with
    | nil =>
      have ht : tru ((h.app (.lst (cutL (([] : List Int).map .int) none (some 1)))).app (.lst (cutL (([] : List Int).map .int) none (some 1)))) (.loc (h.app (.lst (cutL (([] : List Int).map .int) none (some 1)))).n) = some false := by
        unfold tru
        simp only [hg]
        rfl
      refine ⟨_, 0, _, ?_, app_full F2, Nat.lt_succ_self _, app_at F2, S.app.app.app⟩
      simp only [eOr, eQ, qKeys, eSlice, eVar, eCst, g0, g1, Rs.bind, optI, S.sl, hk, qList, newL_ev, ht, qCons, qNil]
    | cons c is =>
      have ht : tru ((h.app (.lst (cutL ((c :: is).map .int) none (some 1)))).app (.lst (cutL ((c :: is).map .int) none (some 1)))) (.loc (h.app (.lst (cutL ((c :: is).map .int) none (some 1)))).n) = some true := by
        unfold tru
        simp only [hg]
        rw [cut1]
        rfl
      refine ⟨_, c, _, ?_, F2, Nat.lt_succ_self _, ?_, S.app.app⟩
      · simp only [eOr, eQ, qKeys, eSlice, eVar, eCst, g0, g1, Rs.bind, optI, S.sl, hk, qList, newL_ev, ht]
      · rw [hg, cut1]; rfl
  obtain ⟨q, c, h1, w1, F1, hq, hg1, S1⟩ := first
  have F2 : Full (h1.app (.lst (cutL (is.map .int) (some 1) (some 63)))) := app_full F1
  have hg2 : (h1.app (.lst (cutL (is.map .int) (some 1) (some 63)))).get h1.n = some (.lst (cutL (is.map .int) (some 1) (some 63))) := app_at F1
  have hm : ∃ js : List Int, cutL (is.map Vl.int) (some 1) (some 63) = js.map Vl.int ∧ js.length ≤ 1000 := by
    refine ⟨(is.take (clip 63 is.length)).drop (clip 1 is.length), ?_, ?_⟩
    · unfold cutL
      simp only [List.length_map]
      first
        | rw [List.map_drop, List.map_take]
        | (simp only [List.map_drop, List.map_take]; done)
    · rw [List.length_drop, List.length_take]; omega
  obtain ⟨js, ej, lj⟩ := hm
  rw [ej] at hg2 F2
  have hc : seqCur (h1.app (.lst (js.map .int))) (.loc h1.n) = some (.lst h1.n 0) := by
    unfold seqCur
    simp only [hg2]
  obtain ⟨r', h', c', z1, z2, z3, z4⟩ := loop_ok (q1 := q) (q2 := h1.n) (by omega) lj (js.length - 0) 0 100000 ⟨⟨some v, some (.int 1), some (.loc q), none, none, none, none⟩, rep7 none, rep7 none, rep7 none, rep7 none, rep7 none, rep7 none⟩ (h1.app (.lst (js.map .int))) c rfl (by omega) F2 rfl rfl (by rw [app_old hq]; exact hg1) hg2
  refine ⟨q, c', h', ?_, z2, z4⟩
  have b0 : bindL [s0, s1] [v, .int 1] env0 = some ⟨⟨some v, some (.int 1), none, none, none, none, none⟩, rep7 none, rep7 none, rep7 none, rep7 none, rep7 none, rep7 none⟩ := rfl
  unfold fnI
  rw [b0]
  show endB ((sAsg (gNm s2) (eOr _ _) _ h).nxt fun r h => (sFor _ _ _ r h).nxt fun r h => (sRet (eVar g2) r h).nxt fun r h => .ok (.nx r) h) = _
  have y1 : sAsg (gNm s2) (eOr (eQ qList (qKeys (eSlice (eVar g0) (eCst .non) (eVar g1)))) (eQ qList (qCons (eCst (.int 0)) qNil))) ⟨⟨some v, some (.int 1), none, none, none, none, none⟩, rep7 none, rep7 none, rep7 none, rep7 none, rep7 none, rep7 none⟩ h = .ok (.nx ⟨⟨some v, some (.int 1), some (.loc q), none, none, none, none⟩, rep7 none, rep7 none, rep7 none, rep7 none, rep7 none, rep7 none⟩) h1 := by
    unfold sAsg
    rw [w1]
    rfl
  rw [y1]
  have y2 : sFor (iEnum (eSlice (eVar g0) (eVar g1) (eCst (.int 63)))) (gTup [gNm s3, gNm s4]) (sSeq bLoop) ⟨⟨some v, some (.int 1), some (.loc q), none, none, none, none⟩, rep7 none, rep7 none, rep7 none, rep7 none, rep7 none, rep7 none⟩ h1 = .ok (.nx r') h' := by
    unfold sFor
    have : iEnum (eSlice (eVar g0) (eVar g1) (eCst (.int 63))) ⟨⟨some v, some (.int 1), some (.loc q), none, none, none, none⟩, rep7 none, rep7 none, rep7 none, rep7 none, rep7 none, rep7 none⟩ h1 = .ok (.enum 0 (.lst h1.n 0), none) (h1.app (.lst (js.map .int))) := by
      simp only [iEnum, eSlice, eVar, eCst, g0, g1, Rs.bind, optI, S1.sl, ej, hc]
    rw [this]
    show (forL _ _ 100000 (.enum 0 (.lst h1.n 0)) _ _).unlk none = _
    rw [z1]
    rfl
  show endB ((sFor (iEnum (eSlice (eVar g0) (eVar g1) (eCst (.int 63)))) (gTup [gNm s3, gNm s4]) (sSeq bLoop) _ h1).nxt fun r h => (sRet (eVar g2) r h).nxt fun r h => .ok (.nx r) h) = _
  rw [y2]
  show endB (((match r'.a.c with | some v => Rs.ok v h' | none => .bad _).toS r' fun v h => .ok (.rt v) h).nxt fun r h => .ok (.nx r) h) = _
  rw [z3]
  rfl
end
end FP
end
section
namespace FP
open PySem PySem.Spec PyProof.Rows L2 PySem.SeqAt

def bOf (tk : FnF) : List EvS := [sRet (e2 pIndex (eVar g1) (eCall tk (qCons (eVar g0) (qCons (e1 pLen (eVar g1)) qNil))))]
def sTin (tb tc : FnF) : EvS := sAsg (gNm s1) (eCall tb (qCons (eCall tc (qCons (eVar g0) (qCons (eCst (.int 1)) qNil))) (qCons (eCst (.int 0)) qNil)))
section
variable {h : He}
theorem tin_ok (F : Full h) {r : Env} {v : Vl} {is : List Int} (S : SeqV h v is) (hl : is.length ≤ 1000) (hr : r.a.a = some v) :
    ∃ q x y h', sTin (fnI [s0, s1] (sSeq bBox)) (fnI [s0, s1] (sSeq bCells)) r h = .ok (.nx (s1 (some (.loc q)) r)) h' ∧ Full h' ∧ h'.get q = some (.lst [.int x, .int y, .int 0]) := by
  obtain ⟨q, c, h1, w1, F1, hg⟩ := cells_ok F S hl
  obtain ⟨x, y, w2⟩ := box_ok F1 hg
  refine ⟨h1.n, x, y, _, ?_, app_full F1, app_at F1⟩
  have e0 : eVar g0 r h = .ok v h := by
    unfold eVar g0
    rw [hr]
  simp only [sTin, sAsg, eCall, qCons, qNil, e0, eCst, Rs.bind, w1, w2, Rs.toS, gNm, Rs.toN]
theorem of_ok {p q : Nat} (hne : p ≠ q) {x y z : Int} {xs : List Vl} (hg : h.get p = some (.lst [.int x, .int y, .int z])) (hq : h.get q = some (.lst xs)) (h0 : 0 < xs.length) (h1 : xs.length < 1000000) (hz : 0 ≤ z) (hz2 : z < 1000000) :
    ∃ v h', fnI [s0, s1] (sSeq (bOf (fnI [s0, s1] (sSeq bTake)))) [.loc p, .loc q] h = .ok v h' ∧ v ∈ xs := by
  obtain ⟨d, x', z', d0, d1, _, _, w⟩ := take_ok hg h0 h1 hz hz2
  have hl : pLen (.loc q) h = .ok (.int (xs.length : Int)) h := by
    unfold pLen lenOf
    simp only [hq]
    exact frN_eq _ _
  have hq2 : (h.set p (.lst [.int x', .int y, .int z'])).get q = some (.lst xs) := by rw [set_old (Ne.symm hne)]; exact hq
  obtain ⟨k, rfl⟩ : ∃ k : Nat, d = (k : Int) := ⟨d.toNat, by omega⟩
  have hk : k < xs.length := by omega
  have hi : pIndex (.loc q) (.int (k : Int)) (h.set p (.lst [.int x', .int y, .int z'])) = .ok xs[k] (h.set p (.lst [.int x', .int y, .int z'])) := by
    unfold pIndex
    simp only [hq2]
    show (match nth xs k with | some v => Rs.ok v _ | none => .bad 107) = _
    rw [nth_eq, List.getElem?_eq_getElem hk]
  refine ⟨xs[k], h.set p (.lst [.int x', .int y, .int z']), ?_, List.getElem_mem hk⟩
  have b0 : bindL [s0, s1] [.loc p, .loc q] env0 = some ⟨⟨some (.loc p), some (.loc q), none, none, none, none, none⟩, rep7 none, rep7 none, rep7 none, rep7 none, rep7 none, rep7 none⟩ := rfl
  show (match bindL [s0, s1] [.loc p, .loc q] env0 with | some r => endB (sSeq (bOf (fnI [s0, s1] (sSeq bTake))) r h) | none => .bad 261) = _
  rw [b0]
  simp only [bOf, sSeq, sRet, e2, eVar, g1, g0, Rs.bind, eCall, qCons, qNil, e1, hl, w, hi, Rs.toS, Rst.nxt, endB]
end
section
variable {G : Gd} {n : Nat} {W : WX}
theorem Sim.full {φ : List Addr} {η : He} {H : Hp} (S : Sim G φ η H) : Full η := fun q hq => by
  rw [← S.len] at hq
  obtain ⟨o, h, _⟩ := S.ob q _ (List.getElem?_eq_getElem hq)
  exact ⟨o, h⟩
/-- the law's list, to begin with -/
theorem enter {K : PySem.W.Frag} (hK : G.K = K) {H : Hp} {a : Addr} {ns : List Int} (h : SqL K H a (ns.map V.int)) : ∃ φ η v, Sim G φ η H ∧ RV G.K φ H v (.ref a) ∧ SeqV η v ns := by
  subst hK
  have rel : ∀ φ, RVs G.K φ H (ns.map Vl.int) (ns.map V.int) := fun φ => ⟨by simp, fun i x v h1 h2 => by
    rw [List.getElem?_map] at h1 h2
    cases e : ns[i]? with
    | none => rw [e] at h1; cases h1
    | some j => rw [e] at h1 h2; cases h1; cases h2; exact .int j⟩
  have fz : SqF G.K H a (ns.map V.int) → ∃ φ η v, Sim G φ η H ∧ RV G.K φ H v (.ref a) ∧ SeqV η v ns := fun q => ⟨[], .nil, .fl (ns.map .int), Sim.empty, .fl q (rel []).1 (rel []).2, .inl rfl⟩
  rcases h with (h | h) | h
  · refine ⟨[a], ⟨1, .nd (.lst (ns.map .int)) .nil .nil⟩, .loc 0, ⟨rfl, List.nodup_cons.mpr ⟨List.not_mem_nil, List.nodup_nil⟩, fun i b hb => ?_⟩, .loc rfl, .inr ⟨0, rfl, Nat.zero_lt_one, rfl⟩⟩
    cases i with
    | zero => cases hb; exact ⟨_, rfl, _, h, rel _⟩
    | succ i => simp at hb
  · exact fz (.inl h)
  · exact fz (.inr h)
/-- plain names alone -/
def plainA (L : List Nat) (r : Env) : Bool := (List.range 49).all fun i => match gOf i r with
  | none => true
  | some x => L.elem i && noLoc 60 x
theorem env_plain {φ' : List Addr} {H' : Hp} {r r' : Env} {σ' : L2.St} {L : List Nat} (E' : EnvR G n φ' H' r' σ') (hp : plainA L r = true) (h : ∀ i ∈ L, gOf i r' = gOf i r) : EnvR G n [] H' r σ' := ⟨E'.len, fun i u hu hi => by
  have q := List.all_eq_true.mp hp i (List.mem_range.mpr hi)
  rw [hu] at q
  have q : (L.elem i && noLoc 60 u) = true := q
  rw [Bool.and_eq_true] at q
  have e3 := h i (List.elem_iff.mp q.1)
  rw [hu] at e3
  obtain ⟨w, hw, rw'⟩ := E'.at' i u e3 hi
  exact ⟨w, hw, noLoc_rel 60 q.2 rw'⟩⟩
theorem part_nx {fs : List EvS} {t : TS} {D : Ends} {σ : L2.St} {H : Hp} {φ : List Addr} {η η' : He} {r r' : Env} (S : Sim G φ η H) (E : EnvR G n φ H r σ) (h : sSeq fs r η = .ok (.nx r') η') (k : ∀ φ' H' σ', Sim G φ' η' H' → EnvR G n φ' H' r' σ' → t D σ' H') : tAll G n W fs t D σ H := by
  refine all_run fs ⟨φ, η, r, S, E, ?_⟩
  rw [h]
  exact fun φ' H' σ' e S' E' => k φ' H' σ' S' E'
end
end FP
end
section
namespace FP
open PySem PySem.Spec PyProof.Rows L2 PySem.SeqAt
theorem walkW {l : PySem.W.OpenLaw} {n k : Nat} {q : Program} {loose : List Str} {XP : (Str → Option Value) → Heap → Prop} {YP : World → Heap → Prop} {d : DefRec} {C : World → CXT} {x : Str}
    (e1 : l.most = some n) (e2 : n ≤ sizeLine) (e3 : d.params.defaults = []) (room : Room k callerA)
    (F : ∀ (w : World) (mg : Str → Option Value) (fa : Addr) (h : Heap), YP w h → h.Ns mainGlobals mg → mg d.name = some (.ref fa) → ∃ (K : PySem.W.Frag) (fd : FuncData) (sp : Sp), K.In h ∧ (∀ (s : Shared) (u : Value), BindsTo s fd ⟨[u], []⟩ [(x, u)]) ∧
      (∀ (H : Hp) (a : Addr) (ns : List Int), ns.length ≤ n → SqL K H a (ns.map V.int) → sp [.ref a] H (fun v _ => v = .bl true) fun _ _ _ => False) ∧ ∀ base : Heap, K.In base → base.Ns mainGlobals mg → FnOk l.prog w K mg base (C w) k fa fd [x] sp)
    (none_ : ∀ (w : World) (H : Hp) (s : Shared) (e : Value) (s' : Shared), C w [] H s (fun _ _ _ => False) e s' → False) : PySem.W.WalkO q loose XP YP l.row.toRowW d [] (fun f vs => PySem.call f vs) := by
  refine Att.attach_call e1 e3 fun w s₀ s₁ mg mb fa o pm cd doc a vs ns Gr Y ho hd hcd gm obj isInt len gens => ?_
  obtain ⟨K, fd, sp, KX, b, hs, ok⟩ := F w mg fa _ Y Gr.T.g gm
  refine law_call KX Gr.T.g Gr.T.b Gr.T.builtins Gr.T.nolimit gens obj isInt (Nat.le_trans len e2) room ok b ?_ ?_
  · intro H _ S
    exact hs H a ns len S
  · intro H e s'
    exact none_ w H s₁ e s'
theorem cx_none {P : Program} {w : World} {H : Hp} {s : Shared} {e : Value} {s' : Shared} (h : L2.CX P w [] H s (fun _ _ _ => False) e s') : False := by
  obtain ⟨_, _, _, _, _, _, _, _, _, _, _, _, z⟩ := h
  exact z
end FP
end
section
namespace FP
namespace K75
open PySem PySem.Spec PyProof.Rows L2
def top (i : Nat) : Stmt := PySem.Challenge.pw_fingercounts_k75_chances_by_hand_and_ref.main.body.getD i (.Pass ⟨0, 0, 0, 0⟩)
def mem (i j : Nat) : Stmt := (clsBody (top i)).getD j (.Pass ⟨0, 0, 0, 0⟩)
def c_YES : Vl := .tup [.str [121, 101, 115]]
def c_MOST_WIDE : Vl := .int 3
def c_NOUGHT : Vl := .tup [.int 0, .int 1]
def c_WHOLE : Vl := .tup [.int 1, .int 1]
def c_LATER : Vl := .str [108, 97, 116, 101, 114]
def c_AHEAD : Vl := .str [97, 104, 101, 97, 100]
def c_MOST_WATCHED : Vl := .int 6
def c_MOST_GAPS : Vl := .int 600
def c_MOST_FROM : Vl := .int 8192
def c_NO_SUM : Vl := .tup [.tup [], .tup []]
def c_ONCE : Vl := .tup [.tup [.tup [.int 1, .int 1]], .tup []]
def c_MOST_CHANCE : Vl := .int 60
def c_MOST_DRAWN : Vl := .int 300
def c_MOST_SHARE : Vl := .int 1000
def foL : List (List Nat) := [[0], [1, 2, 3, 4, 5], [1, 6, 7, 4, 8, 9, 10]]
def fo (c f : Nat) : Bool := foB foL c f
/- _wall -/
def b0 (tab : Tab) : List EvS := [
  sWhl (tOfE (eCst (.bl true))) (sSeq [sPass])]
/- is_number -/
def b1 (tab : Tab) : List EvS := [
  sRet (eAnd (e1 (pIsinst [2]) (eVar g0)) (e1 pNot (e1 (pIsinst [1]) (eVar g0))))]
/- tuple_of -/
def b2 (tab : Tab) : List EvS := [
  sIf (tOfE (e1 (pIsinst [5, 4]) (eVar g0))) (sSeq [sRet (eQ qTuple (qComp [s1] (iOf (eVar g0)) (gNm s1) tYes (cElt (eCall (t2 tab) (qCons (eVar g1) qNil)))))]) (sSeq []),
  sRet (eVar g0)]
/- is_tuple_of -/
def b3 (tab : Tab) : List EvS := [
  sRet (eAnd (e1 (pIsinst [4]) (eVar g0)) (e2 pEq (e1 pLen (eVar g0)) (eVar g1)))]
/- is_letter_set -/
def b4 (tab : Tab) : List EvS := [
  sIf (tOr (tNot (tOfE (e1 (pIsinst [4]) (eVar g1)))) (tNot (tOfE (eQ qAll (qComp [s2] (iOf (eVar g1)) (gNm s2) tYes (cElt (eAnd (eCall (t1 tab) (qCons (eVar g2) qNil)) (eChain pLe pLe (eCst (.int 1)) (eVar g2) (eVar g0))))))))) (sSeq [sRet (eCst (.bl false))]) (sSeq []),
  sRet (eQ qAll (qComp [s3, s4] (iZip (eVar g1) (eSlice (eVar g1) (eCst (.int 1)) (eCst .non))) (gTup [gNm s3, gNm s4]) tYes (cElt (e2 pLt (eVar g3) (eVar g4)))))]
/- is_letter -/
def b5 (tab : Tab) : List EvS := [
  sRet (eAnd (eCall (t1 tab) (qCons (eVar g1) qNil)) (eChain pLe pLe (eCst (.int 1)) (eVar g1) (eVar g0)))]
/- is_text -/
def b6 (tab : Tab) : List EvS := [
  sRet (eAnd (e1 (pIsinst [4]) (eVar g1)) (eQ qAll (qComp [s2] (iOf (eVar g1)) (gNm s2) tYes (cElt (eCall (t5 tab) (qCons (eVar g0) (qCons (eVar g2) qNil)))))))]
/- sure_wide_of -/
def b7 (tab : Tab) : List EvS := [
  sIf (tOr (tNot (tOfE (eCall (t1 tab) (qCons (eVar g0) qNil)))) (tNot (tBl (eChain pLe pLe (eCst (.int 1)) (eVar g0) (eCst c_MOST_WIDE))))) (sSeq [sRaise 2]) (sSeq [])]
/- sure_letters_of -/
def b8 (tab : Tab) : List EvS := [
  sAsg (gNm s2) (eCall (t2 tab) (qCons (eVar g1) qNil)),
  sIf (tNot (tOfE (eCall (t6 tab) (qCons (eVar g0) (qCons (eVar g2) qNil))))) (sSeq [sRaise 2]) (sSeq []),
  sRet (eVar g2)]
/- divisor -/
def b9 (tab : Tab) : List EvS := [
  sPar [s2, s3] (qCons (e1 pAbs (eVar g0)) (qCons (e1 pAbs (eVar g1)) qNil)),
  sWhl (tBl (e2 pGt (eVar g3) (eCst (.int 0)))) (sSeq [sPar [s2, s3] (qCons (eVar g3) (qCons (e2 pMod (eVar g2) (eVar g3)) qNil))]),
  sRet (eVar g2)]
/- ratio_of -/
def b10 (tab : Tab) : List EvS := [
  sAsg (gNm s2) (eCall (t9 tab) (qCons (eVar g0) (qCons (eVar g1) qNil))),
  sRet (eQ qTuple (qCons (e2 pFdiv (eVar g0) (eVar g2)) (qCons (e2 pFdiv (eVar g1) (eVar g2)) qNil)))]
/- is_fraction -/
def b11 (tab : Tab) : List EvS := [
  sIf (tOr (tNot (tOfE (eCall (t3 tab) (qCons (eVar g0) (qCons (eCst (.int 2)) qNil))))) (tNot (tOfE (eQ qAll (qComp [s1] (iOf (eVar g0)) (gNm s1) tYes (cElt (eCall (t1 tab) (qCons (eVar g1) qNil)))))))) (sSeq [sRet (eCst (.bl false))]) (sSeq []),
  sRet (eAnd (e2 pGe (e2 pIndex (eVar g0) (eCst (.int 1))) (eCst (.int 1))) (e2 pEq (eCall (t9 tab) (qCons (e2 pIndex (eVar g0) (eCst (.int 0))) (qCons (e2 pIndex (eVar g0) (eCst (.int 1))) qNil))) (eCst (.int 1))))]
/- plus -/
def b12 (tab : Tab) : List EvS := [
  sRet (eCall (t10 tab) (qCons (e2 pAdd (e2 pMul (e2 pIndex (eVar g0) (eCst (.int 0))) (e2 pIndex (eVar g1) (eCst (.int 1)))) (e2 pMul (e2 pIndex (eVar g1) (eCst (.int 0))) (e2 pIndex (eVar g0) (eCst (.int 1))))) (qCons (e2 pMul (e2 pIndex (eVar g0) (eCst (.int 1))) (e2 pIndex (eVar g1) (eCst (.int 1)))) qNil)))]
/- less -/
def b13 (tab : Tab) : List EvS := [
  sRet (eCall (t10 tab) (qCons (e2 pSub (e2 pMul (e2 pIndex (eVar g0) (eCst (.int 0))) (e2 pIndex (eVar g1) (eCst (.int 1)))) (e2 pMul (e2 pIndex (eVar g1) (eCst (.int 0))) (e2 pIndex (eVar g0) (eCst (.int 1))))) (qCons (e2 pMul (e2 pIndex (eVar g0) (eCst (.int 1))) (e2 pIndex (eVar g1) (eCst (.int 1)))) qNil)))]
/- times -/
def b14 (tab : Tab) : List EvS := [
  sRet (eCall (t10 tab) (qCons (e2 pMul (e2 pIndex (eVar g0) (eCst (.int 0))) (e2 pIndex (eVar g1) (eCst (.int 0)))) (qCons (e2 pMul (e2 pIndex (eVar g0) (eCst (.int 1))) (e2 pIndex (eVar g1) (eCst (.int 1)))) qNil)))]
/- over -/
def b15 (tab : Tab) : List EvS := [
  sIf (tBl (e2 pLt (e2 pIndex (eVar g1) (eCst (.int 0))) (eCst (.int 0)))) (sSeq [sRet (eCall (t10 tab) (qCons (e2 pMul (e1 pNeg (e2 pIndex (eVar g0) (eCst (.int 0)))) (e2 pIndex (eVar g1) (eCst (.int 1)))) (qCons (e2 pMul (e1 pNeg (e2 pIndex (eVar g0) (eCst (.int 1)))) (e2 pIndex (eVar g1) (eCst (.int 0)))) qNil)))]) (sSeq []),
  sRet (eCall (t10 tab) (qCons (e2 pMul (e2 pIndex (eVar g0) (eCst (.int 0))) (e2 pIndex (eVar g1) (eCst (.int 1)))) (qCons (e2 pMul (e2 pIndex (eVar g0) (eCst (.int 1))) (e2 pIndex (eVar g1) (eCst (.int 0)))) qNil)))]
/- is_below -/
def b16 (tab : Tab) : List EvS := [
  sRet (e2 pLt (e2 pMul (e2 pIndex (eVar g0) (eCst (.int 0))) (e2 pIndex (eVar g1) (eCst (.int 1)))) (e2 pMul (e2 pIndex (eVar g1) (eCst (.int 0))) (e2 pIndex (eVar g0) (eCst (.int 1)))))]
/- power -/
def b17 (tab : Tab) : List EvS := [
  sPar [s2, s3, s4] (qCons (eCst (.int 1)) (qCons (eVar g0) (qCons (eVar g1) qNil))),
  sWhl (tBl (e2 pGt (eVar g4) (eCst (.int 0)))) (sSeq [sIf (tBl (e2 pEq (e2 pMod (eVar g4) (eCst (.int 2))) (eCst (.int 1)))) (sSeq [sAsg (gNm s2) (e2 pMul (eVar g2) (eVar g3))]) (sSeq []), sPar [s3, s4] (qCons (e2 pMul (eVar g3) (eVar g3)) (qCons (e2 pFdiv (eVar g4) (eCst (.int 2))) qNil))]),
  sRet (eVar g2)]
/- raised -/
def b18 (tab : Tab) : List EvS := [
  sRet (eQ qTuple (qCons (eCall (t17 tab) (qCons (e2 pIndex (eVar g0) (eCst (.int 0))) (qCons (eVar g1) qNil))) (qCons (eCall (t17 tab) (qCons (e2 pIndex (eVar g0) (eCst (.int 1))) (qCons (eVar g1) qNil))) qNil)))]
/- summed -/
def b19 (tab : Tab) : List EvS := [
  sAsg (gNm s1) (eCst c_NOUGHT),
  sFor (iOf (eVar g0)) (gNm s2) (sSeq [sAsg (gNm s1) (eCall (t12 tab) (qCons (eVar g1) (qCons (eVar g2) qNil)))]),
  sRet (eVar g1)]
/- sign_of -/
def b20 (tab : Tab) : List EvS := [
  sRet (e2 pSub (e1 pInt (e2 pGt (e2 pIndex (eVar g0) (eCst (.int 0))) (eCst (.int 0)))) (e1 pInt (e2 pLt (e2 pIndex (eVar g0) (eCst (.int 0))) (eCst (.int 0)))))]
/- is_small -/
def b21 (tab : Tab) : List EvS := [
  sRet (eAnd (e2 pLe (e1 pAbs (e2 pIndex (eVar g0) (eCst (.int 0)))) (eVar g1)) (e2 pLe (e2 pIndex (eVar g0) (eCst (.int 1))) (eVar g1)))]
/- parts_of_mood -/
def b22 (tab : Tab) : List EvS := [
  sIf (tOr (tNot (tOfE (e1 (pIsinst [4]) (eVar g1)))) (tOr (tBl (e2 pEq (eVar g1) (eQ qTuple qNil))) (tNot (tOfE (e1 (pIsinst [3]) (e2 pIndex (eVar g1) (eCst (.int 0)))))))) (sSeq [sRet (eCst (.non))]) (sSeq []),
  sAsg (gNm s2) (e2 pIndex (eVar g1) (eCst (.int 0))),
  sIf (tBl (e2 pEq (eVar g2) (eCst (.str [121, 101, 115])))) (sSeq [sRet (eIte (tBl (e2 pEq (e1 pLen (eVar g1)) (eCst (.int 1)))) (eQ qList qNil) (eCst (.non)))]) (sSeq []),
  sIf (tBl (e2 pEq (eVar g2) (eCst (.str [108, 101, 116, 116, 101, 114])))) (sSeq [sRet (eIte (tAnd (tOfE (eCall (t3 tab) (qCons (eVar g1) (qCons (eCst (.int 2)) qNil)))) (tOfE (eCall (t4 tab) (qCons (eVar g0) (qCons (e2 pIndex (eVar g1) (eCst (.int 1))) qNil))))) (eQ qList qNil) (eCst (.non)))]) (sSeq []),
  sIf (tBl (e2 pIn (eVar g2) (eQ qTuple (qCons (eCst (.str [110, 111, 116])) (qCons (eCst c_LATER) (qCons (eCst c_AHEAD) qNil)))))) (sSeq [sRet (eIte (tBl (e2 pEq (e1 pLen (eVar g1)) (eCst (.int 2)))) (eQ qList (qCons (e2 pIndex (eVar g1) (eCst (.int 1))) qNil)) (eCst (.non)))]) (sSeq []),
  sIf (tBl (e2 pIn (eVar g2) (eQ qTuple (qCons (eCst (.str [97, 110, 100])) (qCons (eCst (.str [111, 114])) qNil))))) (sSeq [sRet (eIte (tBl (e2 pEq (e1 pLen (eVar g1)) (eCst (.int 3)))) (eQ qList (qKeys (eSlice (eVar g1) (eCst (.int 1)) (eCst .non)))) (eCst (.non)))]) (sSeq []),
  sRet (eCst (.non))]
/- is_mood -/
def b23 (tab : Tab) : List EvS := [
  sAsg (gNm s2) (eQ qList (qCons (eVar g1) qNil)),
  sWhl (tBl (e2 pNe (eVar g2) (eQ qList qNil))) (sSeq [sAsg (gNm s3) (eCall (t22 tab) (qCons (eVar g0) (qCons (eL1 pPop (eVar g2)) qNil))), sIf (tBl (e1 pIsN (eVar g3))) (sSeq [sRet (eCst (.bl false))]) (sSeq []), sEx (eLQ pExtend (eVar g2) (qOfM (eVar g3)))]),
  sRet (eCst (.bl true))]
/- inner_moods -/
def b24 (tab : Tab) : List EvS := [
  sRet (eIte (tBl (e2 pIn (e2 pIndex (eVar g0) (eCst (.int 0))) (eQ qTuple (qCons (eCst (.str [121, 101, 115])) (qCons (eCst (.str [108, 101, 116, 116, 101, 114])) qNil))))) (eQ qTuple qNil) (eSlice (eVar g0) (eCst (.int 1)) (eCst .non)))]
/- mood_size_in -/
def b25 (tab : Tab) : List EvS := [
  sRet (e2 pAdd (eCst (.int 1)) (eQ qSum (qComp [s1] (iOf (eCall (t24 tab) (qCons (eVar g0) qNil))) (gNm s1) tYes (cElt (eCall (t25 tab) (qCons (eVar g1) qNil))))))]
/- watched_in -/
def b26 (tab : Tab) : List EvS := [
  sPar [s1, s2] (qCons (eQ qList (qKeys (eVar g0))) (qCons (eQ qList qNil) qNil)),
  sWhl (tBl (e2 pNe (eVar g1) (eQ qList qNil))) (sSeq [sAsg (gNm s3) (eL1 pPop (eVar g1)), sIf (tAnd (tBl (e2 pIn (e2 pIndex (eVar g3) (eCst (.int 0))) (eQ qTuple (qCons (eCst c_LATER) (qCons (eCst c_AHEAD) qNil))))) (tBl (e2 pNotIn (eVar g3) (eVar g2)))) (sSeq [sEx (eL2 pAppend (eVar g2) (eVar g3))]) (sSeq []), sEx (eLQ pExtend (eVar g1) (qKeys (eCall (t24 tab) (qCons (eVar g3) qNil))))]),
  sAsg (gNm s4) (eQ qList (qSorted (qComp [s3] (iOf (eVar g2)) (gNm s3) tYes (cElt (eQ qTuple (qCons (eCall (t25 tab) (qCons (eVar g3) qNil)) (qCons (eVar g3) qNil))))))),
  sRet (eQ qTuple (qComp [s5, s3] (iOf (eVar g4)) (gTup [gNm s5, gNm s3]) tYes (cElt (eVar g3))))]
/- Stands.__init__ -/
def b27 (tab : Tab) : List EvS := [
  sAsg (gAttr fo (eVar g0) 0) (eCall (t26 tab) (qCons (eVar g1) qNil)),
  sIf (tBl (e2 pGt (e1 pLen (eAttr (eVar g0) 0)) (eCst c_MOST_WATCHED))) (sSeq [sRaise 1]) (sSeq [])]
/- Stands.told -/
def b28 (tab : Tab) : List EvS := [
  sAsg (gNm s5) (e2 pIndex (eVar g1) (eCst (.int 0))),
  sIf (tBl (e2 pEq (eVar g5) (eCst (.str [121, 101, 115])))) (sSeq [sRet (eCst (.bl true))]) (sSeq []),
  sIf (tBl (e2 pEq (eVar g5) (eCst (.str [108, 101, 116, 116, 101, 114])))) (sSeq [sRet (e2 pIn (eVar g2) (e2 pIndex (eVar g1) (eCst (.int 1))))]) (sSeq []),
  sIf (tBl (e2 pEq (eVar g5) (eCst (.str [110, 111, 116])))) (sSeq [sRet (e1 pNot (eMeth [(0, t28 tab)] (eVar g0) (qCons (e2 pIndex (eVar g1) (eCst (.int 1))) (qCons (eVar g2) (qCons (eVar g3) (qCons (eVar g4) qNil))))))]) (sSeq []),
  sIf (tBl (e2 pEq (eVar g5) (eCst (.str [97, 110, 100])))) (sSeq [sRet (eAnd (eMeth [(0, t28 tab)] (eVar g0) (qCons (e2 pIndex (eVar g1) (eCst (.int 1))) (qCons (eVar g2) (qCons (eVar g3) (qCons (eVar g4) qNil))))) (eMeth [(0, t28 tab)] (eVar g0) (qCons (e2 pIndex (eVar g1) (eCst (.int 2))) (qCons (eVar g2) (qCons (eVar g3) (qCons (eVar g4) qNil))))))]) (sSeq []),
  sIf (tBl (e2 pEq (eVar g5) (eCst (.str [111, 114])))) (sSeq [sRet (eOr (eMeth [(0, t28 tab)] (eVar g0) (qCons (e2 pIndex (eVar g1) (eCst (.int 1))) (qCons (eVar g2) (qCons (eVar g3) (qCons (eVar g4) qNil))))) (eMeth [(0, t28 tab)] (eVar g0) (qCons (e2 pIndex (eVar g1) (eCst (.int 2))) (qCons (eVar g2) (qCons (eVar g3) (qCons (eVar g4) qNil))))))]) (sSeq []),
  sRet (e2 pIn (eS2 pIdxOf (eAttr (eVar g0) 0) (eVar g1)) (eIte (tBl (e2 pEq (eVar g5) (eCst c_AHEAD))) (eVar g3) (eVar g4)))]
/- Stands.hits -/
def b29 (tab : Tab) : List EvS := [
  sRet (eQ qTuple (qComp [s5, s6] (iEnum (eAttr (eVar g0) 0)) (gTup [gNm s5, gNm s6]) (tAnd (tBl (e2 pEq (e2 pIndex (eVar g6) (eCst (.int 0))) (eVar g1))) (tOfE (eMeth [(0, t28 tab)] (eVar g0) (qCons (e2 pIndex (eVar g6) (eCst (.int 1))) (qCons (eVar g2) (qCons (eVar g3) (qCons (eVar g4) qNil))))))) (cElt (eVar g5))))]
/- Stands.steps -/
def b30 (tab : Tab) : List EvS := [
  sAsg (gTup [gNm s3, gNm s4]) (eVar g1),
  sAsg (gNm s5) (eQ qList qNil),
  sFor (iOf (eCall (t34 tab) (qCons (eVar g4) qNil))) (gNm s6) (sSeq [sIf (tBl (e2 pEq (eCall (t33 tab) (qCons (eVar g6) (qCons (eMeth [(0, t29 tab)] (eVar g0) (qCons (eCst c_LATER) (qCons (eVar g2) (qCons (eVar g3) (qCons (eVar g6) qNil))))) qNil))) (eVar g4))) (sSeq [sEx (eL2 pAppend (eVar g5) (eQ qTuple (qCons (eCall (t33 tab) (qCons (eVar g3) (qCons (eMeth [(0, t29 tab)] (eVar g0) (qCons (eCst c_AHEAD) (qCons (eVar g2) (qCons (eVar g3) (qCons (eVar g6) qNil))))) qNil))) (qCons (eVar g6) qNil))))]) (sSeq [])]),
  sRet (eQ qTuple (qSorted (qOfL (eVar g5))))]
/- Stands.starts -/
def b31 (tab : Tab) : List EvS := [
  sAsg (gNm s2) (eQ qTuple (qComp [s3, s4] (iEnum (eAttr (eVar g0) 0)) (gTup [gNm s3, gNm s4]) (tBl (e2 pEq (e2 pIndex (eVar g4) (eCst (.int 0))) (eCst c_LATER))) (cElt (eVar g3)))),
  sRet (eQ qTuple (qSorted (qComp [s4] (iOf (eCall (t34 tab) (qCons (eVar g2) qNil))) (gNm s4) (tOfE (eMeth [(0, t28 tab)] (eVar g0) (qCons (eVar g1) (qCons (eCst (.int 0)) (qCons (eQ qTuple qNil) (qCons (eVar g4) qNil)))))) (cElt (eQ qTuple (qCons (eQ qTuple qNil) (qCons (eVar g4) qNil)))))))]
/- Stands.ends -/
def b32 (tab : Tab) : List EvS := [
  sRet (eAnd (e2 pEq (e2 pIndex (eVar g1) (eCst (.int 1))) (eQ qTuple qNil)) (eMeth [(0, t28 tab)] (eVar g0) (qCons (eVar g2) (qCons (eCst (.int 0)) (qCons (e2 pIndex (eVar g1) (eCst (.int 0))) (qCons (eQ qTuple qNil) qNil))))))]
/- joined -/
def b33 (tab : Tab) : List EvS := [
  sRet (eQ qTuple (qSortedSet (e2 pAdd (eVar g0) (eVar g1))))]
/- subsets -/
def b34 (tab : Tab) : List EvS := [
  sAsg (gNm s1) (eQ qList (qCons (eQ qTuple qNil) qNil)),
  sFor (iOf (eVar g0)) (gNm s2) (sSeq [sAsg (gNm s1) (e2 pAdd (eVar g1) (eQ qList (qComp [s3] (iOf (eVar g1)) (gNm s3) tYes (cElt (eQ qTupS (qStar (qOf (eVar g3)) (qCons (eVar g2) qNil)))))))]),
  sRet (eVar g1)]
/- is_demand -/
def b35 (tab : Tab) : List EvS := [
  sIf (tOr (tNot (tOfE (eCall (t1 tab) (qCons (eVar g0) qNil)))) (tNot (tBl (eChain pLe pLe (eCst (.int 1)) (eVar g0) (eCst c_MOST_WIDE))))) (sSeq [sRaise 2]) (sSeq []),
  sRet (eAnd (eCall (t3 tab) (qCons (eVar g1) (qCons (eCst (.int 2)) qNil))) (eAnd (eCall (t23 tab) (qCons (eVar g0) (qCons (e2 pIndex (eVar g1) (eCst (.int 0))) qNil))) (eCall (t23 tab) (qCons (eVar g0) (qCons (e2 pIndex (eVar g1) (eCst (.int 1))) qNil)))))]
/- sure_demand -/
def b36 (tab : Tab) : List EvS := [
  sAsg (gNm s2) (eCall (t2 tab) (qCons (eVar g1) qNil)),
  sIf (tNot (tOfE (eCall (t35 tab) (qCons (eVar g0) (qCons (eVar g2) qNil))))) (sSeq [sRaise 2]) (sSeq []),
  sRet (eVar g2)]
/- Going.__init__ -/
def b37 (tab : Tab) : List EvS := [
  sAsg (gAttr fo (eVar g0) 1) (eVar g1),
  sAsg (gAttr fo (eVar g0) 2) (eVar g2),
  sAsg (gAttr fo (eVar g0) 3) (eMk 0 (t27 tab) (qCons (eVar g2) qNil)),
  sAsg (gAttr fo (eVar g0) 4) (eMeth [(0, t31 tab)] (eAttr (eVar g0) 3) (qCons (e2 pIndex (eVar g2) (eCst (.int 0))) qNil)),
  sAsg (gAttr fo (eVar g0) 5) eDic0,
  sAsg (gNm s3) (eQ qList (qKeys (eAttr (eVar g0) 4))),
  sWhl (tBl (e2 pNe (eVar g3) (eQ qList qNil))) (sSeq [sAsg (gNm s4) (eL1 pPop (eVar g3)), sIf (tBl (e2 pNotIn (eVar g4) (eAttr (eVar g0) 5))) (sSeq [sAsg (gSub (eAttr (eVar g0) 5) (eVar g4)) (eQ qList (qComp [s6] (iRng2 (eCst (.int 1)) (e2 pAdd (eVar g1) (eCst (.int 1)))) (gNm s6) tYes (cElt (eMeth [(0, t30 tab)] (eAttr (eVar g0) 3) (qCons (eVar g4) (qCons (eVar g6) qNil)))))), sFor (iOf (e2 pIndex (eAttr (eVar g0) 5) (eVar g4))) (gNm s5) (sSeq [sEx (eLQ pExtend (eVar g3) (qKeys (eVar g5)))]), sIf (tBl (e2 pGt (e1 pLen (eAttr (eVar g0) 5)) (eCst c_MOST_GAPS))) (sSeq [sRaise 1]) (sSeq [])]) (sSeq [])])]
/- Going.far -/
def b38 (tab : Tab) : List EvS := [
  sAsg (gNm s1) (eDComp [s4] (iOf (eAttr (eVar g0) 5)) (gNm s4) (tOfE (eMeth [(0, t32 tab)] (eAttr (eVar g0) 3) (qCons (eVar g4) (qCons (e2 pIndex (eAttr (eVar g0) 2) (eCst (.int 1))) qNil)))) (dElt (eVar g4) (eCst (.int 0)))),
  sAsg (gNm s2) (e1 pNeg (eCst (.int 1))),
  sWhl (tBl (e2 pLt (eVar g2) (e1 pLen (eVar g1)))) (sSeq [sAsg (gNm s2) (e1 pLen (eVar g1)), sAsg (gNm s3) eDic0, sFor (iItems (eAttr (eVar g0) 5)) (gTup [gNm s4, gNm s5]) (sSeq [sIf (tAnd (tBl (e2 pNotIn (eVar g4) (eVar g1))) (tOfE (eQ qAny (qComp [s6] (iOf (eVar g5)) (gNm s6) tYes (cElt (eQ qAny (qComp [s7] (iOf (eVar g6)) (gNm s7) tYes (cElt (e2 pIn (eVar g7) (eVar g1)))))))))) (sSeq [sAsg (gSub (eVar g3) (eVar g4)) (e2 pAdd (eCst (.int 1)) (eQ qMin (qComp [s6, s7] (iOf (eVar g5)) (gNm s6) tYes (cFor [s7] (iSeq (eVar g6)) (gNm s7) (tBl (e2 pIn (eVar g7) (eVar g1))) (cEltF (e2 pIndex (eVar g1) (eVar g7)))))))]) (sSeq [])]), sEx (eD2 pUpdate (eVar g1) (eVar g3))]),
  sRet (eVar g1)]
/- Going.least -/
def b39 (tab : Tab) : List EvS := [
  sAsg (gNm s1) (eMeth [(1, t38 tab)] (eVar g0) qNil),
  sAsg (gNm s2) (eQ qList (qComp [s6] (iOf (eAttr (eVar g0) 4)) (gNm s6) (tBl (e2 pIn (eVar g6) (eVar g1))) (cElt (eVar g6)))),
  sIf (tBl (e2 pEq (eVar g2) (eQ qList qNil))) (sSeq [sRet (eCst (.non))]) (sSeq []),
  sAsg (gTup [gNm s3, gNm s4]) (eQ qTuple (qCons (eQ qMin (qComp [s6] (iOf (eVar g2)) (gNm s6) tYes (cElt (e2 pIndex (eVar g1) (eVar g6))))) (qCons (eQ qList qNil) qNil))),
  sAsg (gNm s2) (eQ qList (qComp [s6] (iOf (eVar g2)) (gNm s6) (tBl (e2 pEq (e2 pIndex (eVar g1) (eVar g6)) (eVar g3))) (cElt (eVar g6)))),
  sWhl (tBl (e2 pGt (eVar g3) (eCst (.int 0)))) (sSeq [sAsg (gNm s3) (e2 pSub (eVar g3) (eCst (.int 1))), sAsg (gTup [gNm s5, gNm s2]) (eMeth [(1, t40 tab)] (eVar g0) (qCons (eVar g2) (qCons (eVar g1) (qCons (eVar g3) qNil)))), sEx (eL2 pAppend (eVar g4) (eVar g5))]),
  sRet (eQ qTuple (qOf (eVar g4)))]
/- Going.on -/
def b40 (tab : Tab) : List EvS := [
  sFor (iRng2 (eCst (.int 1)) (e2 pAdd (eAttr (eVar g0) 1) (eCst (.int 1)))) (gNm s4) (sSeq [sAsg (gNm s5) (eQ qList qNil), sFor (iOf (eVar g1)) (gNm s6) (sSeq [sEx (eLQ pExtend (eVar g5) (qComp [s7] (iOf (e2 pIndex (e2 pIndex (eAttr (eVar g0) 5) (eVar g6)) (e2 pSub (eVar g4) (eCst (.int 1))))) (gNm s7) (tAnd (tBl (e2 pIn (eVar g7) (eVar g2))) (tBl (e2 pEq (e2 pIndex (eVar g2) (eVar g7)) (eVar g3)))) (cElt (eVar g7))))]), sIf (tBl (e2 pNe (eVar g5) (eQ qList qNil))) (sSeq [sRet (eQ qTuple (qCons (eVar g4) (qCons (eQ qList (qSortedSet (eVar g5))) qNil)))]) (sSeq [])]),
  sRaise 0]
/- trimmed -/
def b41 (tab : Tab) : List EvS := [
  sAsg (gNm s1) (e1 pLen (eVar g0)),
  sFor (iOf (e1 pRev (eVar g0))) (gNm s2) (sSeq [sIf (tBl (e2 pNe (eVar g2) (eCst c_NOUGHT))) (sSeq [sBrk]) (sSeq []), sAsg (gNm s1) (e2 pSub (eVar g1) (eCst (.int 1)))]),
  sRet (eQ qTuple (qOf (eSlice (eVar g0) (eCst .non) (eVar g1))))]
/- poly_value -/
def b42 (tab : Tab) : List EvS := [
  sAsg (gNm s2) (eCst c_NOUGHT),
  sFor (iOf (e1 pRev (eVar g0))) (gNm s3) (sSeq [sAsg (gNm s2) (eCall (t12 tab) (qCons (eCall (t14 tab) (qCons (eVar g2) (qCons (eQ qTuple (qCons (eVar g1) (qCons (eCst (.int 1)) qNil))) qNil))) (qCons (eVar g3) qNil)))]),
  sRet (eVar g2)]
/- poly_added -/
def b43 (tab : Tab) : List EvS := [
  sAsg (gNm s2) (e2 pMax2 (e1 pLen (eVar g0)) (e1 pLen (eVar g1))),
  sPar [s3, s4] (qCons (e2 pAdd (eQ qList (qKeys (eVar g0))) (e2 pMul (eQ qList (qCons (eCst c_NOUGHT) qNil)) (e2 pSub (eVar g2) (e1 pLen (eVar g0))))) (qCons (e2 pAdd (eQ qList (qKeys (eVar g1))) (e2 pMul (eQ qList (qCons (eCst c_NOUGHT) qNil)) (e2 pSub (eVar g2) (e1 pLen (eVar g1))))) qNil)),
  sRet (eCall (t41 tab) (qCons (eQ qList (qComp [s5, s6] (iZip (eVar g3) (eVar g4)) (gTup [gNm s5, gNm s6]) tYes (cElt (eCall (t12 tab) (qCons (eVar g5) (qCons (eVar g6) qNil)))))) qNil))]
/- poly_times -/
def b44 (tab : Tab) : List EvS := [
  sRet (eCall (t41 tab) (qCons (eQ qList (qComp [s2] (iOf (eVar g0)) (gNm s2) tYes (cElt (eCall (t14 tab) (qCons (eVar g2) (qCons (eVar g1) qNil)))))) qNil))]
/- choose -/
def b45 (tab : Tab) : List EvS := [
  sAsg (gNm s2) (eCst (.int 1)),
  sFor (iRng1 (eVar g1)) (gNm s3) (sSeq [sAsg (gNm s2) (e2 pFdiv (e2 pMul (eVar g2) (e2 pSub (eVar g0) (eVar g3))) (e2 pAdd (eVar g3) (eCst (.int 1))))]),
  sRet (eVar g2)]
/- poly_moved -/
def b46 (tab : Tab) : List EvS := [
  sAsg (gNm s2) (eQ qList qNil),
  sFor (iRng1 (e1 pLen (eVar g0))) (gNm s3) (sSeq [sAsg (gNm s4) (eCst c_NOUGHT), sFor (iRng2 (eVar g3) (e1 pLen (eVar g0))) (gNm s5) (sSeq [sAsg (gNm s4) (eCall (t12 tab) (qCons (eVar g4) (qCons (eCall (t14 tab) (qCons (e2 pIndex (eVar g0) (eVar g5)) (qCons (eQ qTuple (qCons (e2 pMul (eCall (t45 tab) (qCons (eVar g5) (qCons (eVar g3) qNil))) (eCall (t17 tab) (qCons (eVar g1) (qCons (e2 pSub (eVar g5) (eVar g3)) qNil)))) (qCons (eCst (.int 1)) qNil))) qNil))) qNil)))]), sEx (eL2 pAppend (eVar g2) (eVar g4))]),
  sRet (eCall (t41 tab) (qCons (eVar g2) qNil))]
/- poly_settled -/
def b47 (tab : Tab) : List EvS := [
  sIf (tBl (e2 pEq (eVar g1) (eCst c_WHOLE))) (sSeq [sRet (eCall (t48 tab) (qCons (eVar g0) qNil))]) (sSeq []),
  sAsg (gNm s2) (e2 pMul (eQ qList (qCons (eCst c_NOUGHT) qNil)) (e1 pLen (eVar g0))),
  sFor (iRng3 (e2 pSub (e1 pLen (eVar g0)) (eCst (.int 1))) (e1 pNeg (eCst (.int 1))) (e1 pNeg (eCst (.int 1)))) (gNm s3) (sSeq [sAsg (gNm s4) (eCst c_NOUGHT), sFor (iRng2 (e2 pAdd (eVar g3) (eCst (.int 1))) (e1 pLen (eVar g0))) (gNm s5) (sSeq [sAsg (gNm s4) (eCall (t12 tab) (qCons (eVar g4) (qCons (eCall (t14 tab) (qCons (e2 pIndex (eVar g2) (eVar g5)) (qCons (eQ qTuple (qCons (e2 pMul (eCall (t45 tab) (qCons (eVar g5) (qCons (eVar g3) qNil))) (eCall (t17 tab) (qCons (e1 pNeg (eCst (.int 1))) (qCons (e2 pSub (eVar g5) (eVar g3)) qNil)))) (qCons (eCst (.int 1)) qNil))) qNil))) qNil)))]), sAsg (gSub (eVar g2) (eVar g3)) (eCall (t15 tab) (qCons (eCall (t12 tab) (qCons (e2 pIndex (eVar g0) (eVar g3)) (qCons (eCall (t14 tab) (qCons (eVar g1) (qCons (eVar g4) qNil))) qNil))) (qCons (eCall (t13 tab) (qCons (eCst c_WHOLE) (qCons (eVar g1) qNil))) qNil)))]),
  sRet (eCall (t41 tab) (qCons (eVar g2) qNil))]
/- poly_summed -/
def b48 (tab : Tab) : List EvS := [
  sAsg (gNm s1) (e2 pMul (eQ qList (qCons (eCst c_NOUGHT) qNil)) (e2 pAdd (e1 pLen (eVar g0)) (eCst (.int 1)))),
  sFor (iRng3 (e2 pSub (e1 pLen (eVar g0)) (eCst (.int 1))) (e1 pNeg (eCst (.int 1))) (e1 pNeg (eCst (.int 1)))) (gNm s2) (sSeq [sAsg (gNm s3) (e2 pIndex (eVar g0) (eVar g2)), sFor (iRng2 (e2 pAdd (eVar g2) (eCst (.int 2))) (e2 pAdd (e1 pLen (eVar g0)) (eCst (.int 1)))) (gNm s4) (sSeq [sAsg (gNm s3) (eCall (t12 tab) (qCons (eVar g3) (qCons (eCall (t14 tab) (qCons (e2 pIndex (eVar g1) (eVar g4)) (qCons (eQ qTuple (qCons (e2 pMul (eCall (t45 tab) (qCons (eVar g4) (qCons (eVar g2) qNil))) (eCall (t17 tab) (qCons (e1 pNeg (eCst (.int 1))) (qCons (e2 pSub (eVar g4) (eVar g2)) qNil)))) (qCons (eCst (.int 1)) qNil))) qNil))) qNil)))]), sAsg (gSub (eVar g1) (e2 pAdd (eVar g2) (eCst (.int 1)))) (eCall (t14 tab) (qCons (eVar g3) (qCons (eCall (t10 tab) (qCons (eCst (.int 1)) (qCons (e2 pAdd (eVar g2) (eCst (.int 1))) qNil))) qNil)))]),
  sRet (eCall (t41 tab) (qCons (eVar g1) qNil))]
/- sure_count -/
def b49 (tab : Tab) : List EvS := [
  sIf (tOr (tNot (tOfE (eCall (t1 tab) (qCons (eVar g0) qNil)))) (tNot (tBl (eChain pLe pLe (eCst (.int 0)) (eVar g0) (eVar g1))))) (sSeq [sRaise 2]) (sSeq [])]
/- parts_value -/
def b50 (tab : Tab) : List EvS := [
  sAsg (gNm s2) (eCst c_NOUGHT),
  sFor (iOf (eVar g0)) (gTup [gNm s3, gNm s4]) (sSeq [sAsg (gNm s5) (eCall (t42 tab) (qCons (eVar g4) (qCons (eVar g1) qNil))), sIf (tBl (e2 pNe (eVar g5) (eCst c_NOUGHT))) (sSeq [sAsg (gNm s2) (eCall (t12 tab) (qCons (eVar g2) (qCons (eCall (t14 tab) (qCons (eVar g5) (qCons (eCall (t18 tab) (qCons (eVar g3) (qCons (eVar g1) qNil))) qNil))) qNil)))]) (sSeq [])]),
  sRet (eVar g2)]
/- value_in -/
def b51 (tab : Tab) : List EvS := [
  sRet (eIte (tBl (e2 pLt (eVar g1) (e1 pLen (e2 pIndex (eVar g0) (eCst (.int 0)))))) (e2 pIndex (e2 pIndex (eVar g0) (eCst (.int 0))) (eVar g1)) (eCall (t50 tab) (qCons (e2 pIndex (eVar g0) (eCst (.int 1))) (qCons (eVar g1) qNil))))]
/- in_order -/
def b52 (tab : Tab) : List EvS := [
  sAsg (gNm s1) (eQ qList qNil),
  sFor (iOf (eVar g0)) (gNm s2) (sSeq [sAsg (gNm s3) (e1 pLen (eQ qList (qComp [s4] (iOf (eVar g1)) (gNm s4) (tOfE (eCall (t16 tab) (qCons (eVar g4) (qCons (eVar g2) qNil)))) (cElt (eVar g4))))), sEx (eL3 pInsert (eVar g1) (eVar g3) (eVar g2))]),
  sRet (eVar g1)]
/- made_short -/
def b53 (tab : Tab) : List EvS := [
  sAsg (gNm s2) (eQ qTuple (qComp [s5] (iOf (eCall (t52 tab) (qCons (eQ qList (qKeys (eVar g1))) qNil))) (gNm s5) (tBl (e2 pNe (e2 pIndex (eVar g1) (eVar g5)) (eQ qTuple qNil))) (cElt (eQ qTuple (qCons (eVar g5) (qCons (e2 pIndex (eVar g1) (eVar g5)) qNil)))))),
  sAsg (gNm s3) (e1 pLen (eVar g0)),
  sFor (iRng3 (e2 pSub (e1 pLen (eVar g0)) (eCst (.int 1))) (e1 pNeg (eCst (.int 1))) (e1 pNeg (eCst (.int 1)))) (gNm s4) (sSeq [sIf (tBl (e2 pNe (e2 pIndex (eVar g0) (eVar g4)) (eCall (t50 tab) (qCons (eVar g2) (qCons (eVar g4) qNil))))) (sSeq [sBrk]) (sSeq []), sAsg (gNm s3) (eVar g4)]),
  sRet (eQ qTuple (qCons (eQ qTuple (qOf (eSlice (eVar g0) (eCst .non) (eVar g3)))) (qCons (eVar g2) qNil)))]
/- added_in -/
def b54 (tab : Tab) : List EvS := [
  sAsg (gNm s2) (e2 pMax2 (e1 pLen (e2 pIndex (eVar g0) (eCst (.int 0)))) (e1 pLen (e2 pIndex (eVar g1) (eCst (.int 0))))),
  sAsg (gNm s3) (eDComp [s4, s5] (iOf (e2 pIndex (eVar g0) (eCst (.int 1)))) (gTup [gNm s4, gNm s5]) tYes (dElt (eVar g4) (eVar g5))),
  sFor (iOf (e2 pIndex (eVar g1) (eCst (.int 1)))) (gTup [gNm s4, gNm s5]) (sSeq [sAsg (gSub (eVar g3) (eVar g4)) (eCall (t43 tab) (qCons (eD3 pGet2 (eVar g3) (eVar g4) (eQ qTuple qNil)) (qCons (eVar g5) qNil)))]),
  sRet (eCall (t53 tab) (qCons (eQ qList (qComp [s6] (iRng1 (eVar g2)) (gNm s6) tYes (cElt (eCall (t12 tab) (qCons (eCall (t51 tab) (qCons (eVar g0) (qCons (eVar g6) qNil))) (qCons (eCall (t51 tab) (qCons (eVar g1) (qCons (eVar g6) qNil))) qNil)))))) (qCons (eVar g3) qNil)))]
/- times_in -/
def b55 (tab : Tab) : List EvS := [
  sAsg (gNm s2) (eQ qList (qComp [s3] (iOf (e2 pIndex (eVar g0) (eCst (.int 0)))) (gNm s3) tYes (cElt (eCall (t14 tab) (qCons (eVar g3) (qCons (eVar g1) qNil)))))),
  sRet (eCall (t53 tab) (qCons (eVar g2) (qCons (eDComp [s4, s5] (iOf (e2 pIndex (eVar g0) (eCst (.int 1)))) (gTup [gNm s4, gNm s5]) tYes (dElt (eVar g4) (eCall (t44 tab) (qCons (eVar g5) (qCons (eVar g1) qNil))))) qNil)))]
/- less_in -/
def b56 (tab : Tab) : List EvS := [
  sRet (eCall (t54 tab) (qCons (eVar g0) (qCons (eCall (t55 tab) (qCons (eVar g1) (qCons (eQ qTuple (qCons (e1 pNeg (eCst (.int 1))) (qCons (eCst (.int 1)) qNil))) qNil))) qNil)))]
/- behind_in -/
def b57 (tab : Tab) : List EvS := [
  sAsg (gNm s2) (eDComp [s3, s4] (iOf (e2 pIndex (eVar g0) (eCst (.int 1)))) (gTup [gNm s3, gNm s4]) tYes (dElt (eVar g3) (eCall (t44 tab) (qCons (eCall (t46 tab) (qCons (eVar g4) (qCons (e1 pNeg (eCst (.int 1))) qNil))) (qCons (eCall (t15 tab) (qCons (eCst c_WHOLE) (qCons (eVar g3) qNil))) qNil))))),
  sRet (eCall (t53 tab) (qCons (eQ qTupS (qCons (eVar g1) (qStar (qOf (e2 pIndex (eVar g0) (eCst (.int 0)))) qNil))) (qCons (eVar g2) qNil)))]
/- folded_in -/
def b58 (tab : Tab) : List EvS := [
  sPar [s2, s3, s4] (qCons eDic0 (qCons (eQ qList qNil) (qCons (eCst c_NOUGHT) qNil))),
  sFor (iRng1 (e2 pMax2 (eCst (.int 1)) (e1 pLen (e2 pIndex (eVar g0) (eCst (.int 0)))))) (gNm s5) (sSeq [sAsg (gNm s4) (eCall (t12 tab) (qCons (eCall (t14 tab) (qCons (eVar g4) (qCons (eVar g1) qNil))) (qCons (eCall (t51 tab) (qCons (eVar g0) (qCons (eVar g5) qNil))) qNil))), sEx (eL2 pAppend (eVar g3) (eVar g4))]),
  sAsg (gNm s5) (e2 pSub (e1 pLen (eVar g3)) (eCst (.int 1))),
  sFor (iOf (e2 pIndex (eVar g0) (eCst (.int 1)))) (gTup [gNm s6, gNm s7]) (sSeq [sAsg (gSub (eVar g2) (eVar g6)) (eCall (t47 tab) (qCons (eVar g7) (qCons (eCall (t15 tab) (qCons (eVar g1) (qCons (eVar g6) qNil))) qNil))), sAsg (gNm s4) (eCall (t13 tab) (qCons (eVar g4) (qCons (eCall (t14 tab) (qCons (eCall (t42 tab) (qCons (e2 pIndex (eVar g2) (eVar g6)) (qCons (eVar g5) qNil))) (qCons (eCall (t18 tab) (qCons (eVar g6) (qCons (eVar g5) qNil))) qNil))) qNil)))]),
  sAsg (gNm s8) (eCall (t15 tab) (qCons (eVar g4) (qCons (eCall (t18 tab) (qCons (eVar g1) (qCons (eVar g5) qNil))) qNil))),
  sIf (tBl (e2 pNe (eVar g8) (eCst c_NOUGHT))) (sSeq [sAsg (gSub (eVar g2) (eVar g1)) (eCall (t43 tab) (qCons (eD3 pGet2 (eVar g2) (eVar g1) (eQ qTuple qNil)) (qCons (eQ qTuple (qCons (eVar g8) qNil)) qNil)))]) (sSeq []),
  sRet (eCall (t53 tab) (qCons (eVar g3) (qCons (eVar g2) qNil)))]
/- leading_in -/
def b59 (tab : Tab) : List EvS := [
  sIf (tBl (e2 pEq (e2 pIndex (eVar g0) (eCst (.int 1))) (eQ qTuple qNil))) (sSeq [sRet (eCst (.non))]) (sSeq []),
  sAsg (gTup [gNm s1, gNm s2]) (e2 pIndex (e2 pIndex (eVar g0) (eCst (.int 1))) (e1 pNeg (eCst (.int 1)))),
  sRet (eQ qTuple (qCons (eVar g1) (qCons (e2 pSub (e1 pLen (eVar g2)) (eCst (.int 1))) (qCons (e2 pIndex (eVar g2) (e1 pNeg (eCst (.int 1)))) qNil))))]
/- shares_of -/
def b60 (tab : Tab) : List EvS := [
  sAsg (gTup [gNm s1, gNm s2, gNm s3]) (eCall (t59 tab) (qCons (eVar g0) qNil)),
  sAsg (gNm s4) (eQ qList qNil),
  sFor (iOf (e2 pIndex (eVar g0) (eCst (.int 1)))) (gTup [gNm s5, gNm s6]) (sSeq [sFor (iEnum (eVar g6)) (gTup [gNm s7, gNm s8]) (sSeq [sIf (tAnd (tBl (e2 pNe (eVar g8) (eCst c_NOUGHT))) (tBl (e2 pNe (eQ qTuple (qCons (eVar g5) (qCons (eVar g7) qNil))) (eQ qTuple (qCons (eVar g1) (qCons (eVar g2) qNil)))))) (sSeq [sAsg (gNm s9) (eCall (t15 tab) (qCons (eVar g8) (qCons (eVar g3) qNil))), sEx (eL2 pAppend (eVar g4) (eQ qTuple (qCons (eCall (t15 tab) (qCons (eVar g5) (qCons (eVar g1) qNil))) (qCons (e2 pSub (eVar g7) (eVar g2)) (qCons (eQ qTuple (qCons (e1 pAbs (e2 pIndex (eVar g9) (eCst (.int 0)))) (qCons (e2 pIndex (eVar g9) (eCst (.int 1))) qNil))) qNil)))))]) (sSeq [])])]),
  sRet (eVar g4)]
/- are_small -/
def b61 (tab : Tab) : List EvS := [
  sAsg (gNm s2) (eCst c_NOUGHT),
  sFor (iOf (eVar g0)) (gTup [gNm s3, gNm s4, gNm s5]) (sSeq [sAsg (gNm s6) (eCall (t14 tab) (qCons (eVar g5) (qCons (eCall (t18 tab) (qCons (eVar g3) (qCons (eVar g1) qNil))) qNil))), sIf (tBl (e2 pGt (eVar g4) (eCst (.int 0)))) (sSeq [sIf (tOfE (eCall (t16 tab) (qCons (eCall (t18 tab) (qCons (eQ qTuple (qCons (eVar g1) (qCons (eCst (.int 1)) qNil))) (qCons (eVar g4) qNil))) (qCons (eCall (t14 tab) (qCons (eCall (t18 tab) (qCons (eQ qTuple (qCons (e2 pAdd (eVar g1) (eCst (.int 1))) (qCons (eCst (.int 1)) qNil))) (qCons (eVar g4) qNil))) (qCons (eVar g3) qNil))) qNil)))) (sSeq [sRet (eCst (.bl false))]) (sSeq []), sAsg (gNm s6) (eCall (t14 tab) (qCons (eVar g6) (qCons (eCall (t18 tab) (qCons (eQ qTuple (qCons (eVar g1) (qCons (eCst (.int 1)) qNil))) (qCons (eVar g4) qNil))) qNil)))]) (sSeq [sAsg (gNm s6) (eCall (t15 tab) (qCons (eVar g6) (qCons (eCall (t18 tab) (qCons (eQ qTuple (qCons (eVar g1) (qCons (eCst (.int 1)) qNil))) (qCons (e1 pNeg (eVar g4)) qNil))) qNil)))]), sAsg (gNm s2) (eCall (t12 tab) (qCons (eVar g2) (qCons (eVar g6) qNil)))]),
  sRet (eCall (t16 tab) (qCons (eVar g2) (qCons (eCst c_WHOLE) qNil)))]
/- sign_in -/
def b62 (tab : Tab) : List EvS := [
  sIf (tBl (e2 pEq (e2 pIndex (eVar g0) (eCst (.int 1))) (eQ qTuple qNil))) (sSeq [sRet (eQ qTuple (qCons (eCst (.int 0)) (qCons (e1 pLen (e2 pIndex (eVar g0) (eCst (.int 0)))) qNil)))]) (sSeq []),
  sPar [s1, s2] (qCons (eCall (t60 tab) (qCons (eVar g0) qNil)) (qCons (e2 pMax2 (eCst (.int 1)) (e1 pLen (e2 pIndex (eVar g0) (eCst (.int 0))))) qNil)),
  sWhl (tNot (tOfE (eCall (t61 tab) (qCons (eVar g1) (qCons (eVar g2) qNil))))) (sSeq [sAsg (gNm s2) (e2 pMul (eCst (.int 2)) (eVar g2)), sIf (tBl (e2 pGt (eVar g2) (eCst c_MOST_FROM))) (sSeq [sRaise 1]) (sSeq [])]),
  sAsg (gNm s3) (eCall (t20 tab) (qCons (e2 pIndex (eCall (t59 tab) (qCons (eVar g0) qNil)) (eCst (.int 2))) qNil)),
  sRet (eQ qTuple (qCons (eVar g3) (qCons (eCall (t63 tab) (qCons (eVar g0) (qCons (eVar g3) (qCons (eVar g2) qNil)))) qNil)))]
/- settled_from -/
def b63 (tab : Tab) : List EvS := [
  sAsg (gNm s3) (eVar g2),
  sFor (iRng3 (e2 pSub (eVar g2) (eCst (.int 1))) (e1 pNeg (eCst (.int 1))) (e1 pNeg (eCst (.int 1)))) (gNm s4) (sSeq [sIf (tBl (e2 pNe (eCall (t20 tab) (qCons (eCall (t51 tab) (qCons (eVar g0) (qCons (eVar g4) qNil))) qNil)) (eVar g1))) (sSeq [sBrk]) (sSeq []), sAsg (gNm s3) (eVar g4)]),
  sRet (eVar g3)]
/- Web.__init__ -/
def b64 (tab : Tab) : List EvS := [
  sAsg (gAttr fo (eVar g0) 1) (eVar g1),
  sAsg (gAttr fo (eVar g0) 6) (eMk 1 (t37 tab) (qCons (eVar g1) (qCons (eVar g2) qNil))),
  sAsg (gNm s3) (eMeth [(1, t38 tab)] (eAttr (eVar g0) 6) qNil),
  sAsg (gNm s4) (eQ qList (qSorted (qComp [s5] (iOf (eVar g3)) (gNm s5) tYes (cElt (eQ qTuple (qCons (e2 pSub (e1 pLen (e2 pIndex (eVar g5) (eCst (.int 0)))) (e1 pLen (e2 pIndex (eVar g5) (eCst (.int 1))))) (qCons (eVar g5) qNil))))))),
  sAsg (gAttr fo (eVar g0) 7) (eQ qList (qComp [s7, s5] (iOf (eVar g4)) (gTup [gNm s7, gNm s5]) tYes (cElt (eVar g5)))),
  sAsg (gAttr fo (eVar g0) 4) (eQ qList (qComp [s5] (iOf (eAttr (eAttr (eVar g0) 6) 4)) (gNm s5) (tBl (e2 pIn (eVar g5) (eVar g3))) (cElt (eVar g5)))),
  sAsg (gAttr fo (eVar g0) 8) (eDComp [s5] (iOf (eAttr (eVar g0) 7)) (gNm s5) tYes (dElt (eVar g5) (eMeth [(0, t32 tab)] (eAttr (eAttr (eVar g0) 6) 3) (qCons (eVar g5) (qCons (e2 pIndex (eVar g2) (eCst (.int 1))) qNil))))),
  sAsg (gTup [gAttr fo (eVar g0) 9, gAttr fo (eVar g0) 10]) (eQ qTuple (qCons eDic0 (qCons eDic0 qNil))),
  sFor (iOf (eAttr (eVar g0) 7)) (gNm s5) (sSeq [sAsg (gNm s6) (e2 pIndex (eAttr (eAttr (eVar g0) 6) 5) (eVar g5)), sAsg (gSub (eAttr (eVar g0) 9) (eVar g5)) (eQ qTuple (qComp [s8] (iRng1 (eVar g1)) (gNm s8) (tBl (e2 pIn (eVar g5) (e2 pIndex (eVar g6) (eVar g8)))) (cElt (e2 pAdd (eVar g8) (eCst (.int 1)))))), sAsg (gSub (eAttr (eVar g0) 10) (eVar g5)) (eQ qList (qComp [s8, s9] (iRng1 (eVar g1)) (gNm s8) tYes (cFor [s9] (iSeq (e2 pIndex (eVar g6) (eVar g8))) (gNm s9) (tAnd (tBl (e2 pIn (eVar g9) (eVar g3))) (tBl (e2 pNe (eVar g9) (eVar g5)))) (cEltF (eQ qTuple (qCons (e2 pAdd (eVar g8) (eCst (.int 1))) (qCons (eVar g9) qNil)))))))])]
/- Web.goals -/
def b65 (tab : Tab) : List EvS := [
  sRet (eQ qList (qComp [s3] (iOf (e2 pIndex (e2 pIndex (eAttr (eAttr (eVar g0) 6) 5) (eVar g1)) (e2 pSub (eVar g2) (eCst (.int 1))))) (gNm s3) (tBl (e2 pIn (eVar g3) (eAttr (eVar g0) 8))) (cElt (eVar g3))))]
/- Web.after -/
def b66 (tab : Tab) : List EvS := [
  sEx (eCall (t0 tab) (qCons (eCst (.int 0)) qNil))]
/- Web.ways -/
def b67 (tab : Tab) : List EvS := [
  sAsg (gNm s2) (eQ qList (qCons (eDComp [s5] (iOf (eAttr (eVar g0) 7)) (gNm s5) tYes (dElt (eVar g5) (e1 pInt (e2 pIndex (eAttr (eVar g0) 8) (eVar g5))))) qNil)),
  sFor (iRng1 (eVar g1)) (gNm s3) (sSeq [sAsg (gNm s4) eDic0, sFor (iOf (eAttr (eVar g0) 7)) (gNm s5) (sSeq [sAsg (gNm s6) (e2 pMul (e1 pLen (e2 pIndex (eAttr (eVar g0) 9) (eVar g5))) (e2 pIndex (e2 pIndex (eVar g2) (e1 pNeg (eCst (.int 1)))) (eVar g5))), sAsg (gSub (eVar g4) (eVar g5)) (e2 pAdd (eVar g6) (eQ qSum (qComp [s3, s7] (iOf (e2 pIndex (eAttr (eVar g0) 10) (eVar g5))) (gTup [gNm s3, gNm s7]) tYes (cElt (e2 pIndex (e2 pIndex (eVar g2) (e1 pNeg (eCst (.int 1)))) (eVar g7))))))]), sEx (eL2 pAppend (eVar g2) (eVar g4))]),
  sRet (eVar g2)]
/- weight_of -/
def b68 (tab : Tab) : List EvS := [
  sRet (eCall (t19 tab) (qCons (eQ qList (qComp [s2] (iOf (eVar g0)) (gNm s2) tYes (cElt (e2 pIndex (eVar g1) (e2 pSub (eVar g2) (eCst (.int 1))))))) qNil))]
/- step_sum -/
def b69 (tab : Tab) : List EvS := [
  sRet (eCall (t55 tab) (qCons (eCall (t57 tab) (qCons (eVar g0) (qCons (eCst c_NOUGHT) qNil))) (qCons (eVar g1) qNil)))]
/- stay_sum -/
def b70 (tab : Tab) : List EvS := [
  sRet (eIte (tBl (e2 pEq (eVar g1) (eCst c_NOUGHT))) (eVar g0) (eCall (t58 tab) (qCons (eVar g0) (qCons (eVar g1) qNil))))]
/- web_sums -/
def b71 (tab : Tab) : List EvS := [
  sAsg (gNm s2) eDic0,
  sFor (iOf (e1 pRev (eAttr (eVar g0) 7))) (gNm s3) (sSeq [sAsg (gNm s4) (eIte (tOfE (e2 pIndex (eAttr (eVar g0) 8) (eVar g3))) (eCst c_ONCE) (eCst c_NO_SUM)), sFor (iOf (e2 pIndex (eAttr (eVar g0) 10) (eVar g3))) (gTup [gNm s5, gNm s6]) (sSeq [sAsg (gNm s4) (eCall (t54 tab) (qCons (eVar g4) (qCons (eCall (t69 tab) (qCons (e2 pIndex (eVar g2) (eVar g6)) (qCons (e2 pIndex (eVar g1) (e2 pSub (eVar g5) (eCst (.int 1)))) qNil))) qNil)))]), sAsg (gSub (eVar g2) (eVar g3)) (eCall (t70 tab) (qCons (eVar g4) (qCons (eCall (t68 tab) (qCons (e2 pIndex (eAttr (eVar g0) 9) (eVar g3)) (qCons (eVar g1) qNil))) qNil)))]),
  sRet (eVar g2)]
/- weighed -/
def b72 (tab : Tab) : List EvS := [
  sAsg (gNm s3) (eMk 2 (t64 tab) (qCons (eVar g0) (qCons (eVar g1) qNil))),
  sPar [s4, s5] (qCons (eCall (t71 tab) (qCons (eVar g3) (qCons (eVar g2) qNil))) (qCons (eCst c_NO_SUM) qNil)),
  sFor (iOf (eAttr (eVar g3) 4)) (gNm s6) (sSeq [sAsg (gNm s5) (eCall (t54 tab) (qCons (eVar g5) (qCons (e2 pIndex (eVar g4) (eVar g6)) qNil)))]),
  sRet (eVar g5)]
/- end_of_both -/
def b73 (tab : Tab) : List EvS := [
  sIf (tBl (e2 pEq (eVar g0) (eCst c_YES))) (sSeq [sRet (eVar g1)]) (sSeq []),
  sRet (eIte (tBl (e2 pEq (eVar g1) (eCst c_YES))) (eVar g0) (eQ qTuple (qCons (eCst (.str [97, 110, 100])) (qCons (eVar g0) (qCons (eVar g1) qNil)))))]
/- both_demands -/
def b74 (tab : Tab) : List EvS := [
  sRet (eQ qTuple (qCons (eCall (t73 tab) (qCons (e2 pIndex (eVar g0) (eCst (.int 0))) (qCons (e2 pIndex (eVar g1) (eCst (.int 0))) qNil))) (qCons (eCall (t73 tab) (qCons (e2 pIndex (eVar g0) (eCst (.int 1))) (qCons (e2 pIndex (eVar g1) (eCst (.int 1))) qNil))) qNil)))]
/- limit_share -/
def b75 (tab : Tab) : List EvS := [
  sPar [s2, s3] (qCons (eCall (t59 tab) (qCons (eVar g0) qNil)) (qCons (eCall (t59 tab) (qCons (eVar g1) qNil)) qNil)),
  sIf (tOr (tBl (e1 pIsN (eVar g2))) (tBl (e2 pNe (eSlice (eVar g2) (eCst .non) (eCst (.int 2))) (eSlice (eVar g3) (eCst .non) (eCst (.int 2)))))) (sSeq [sRet (eCst c_NOUGHT)]) (sSeq []),
  sRet (eCall (t15 tab) (qCons (e2 pIndex (eVar g2) (eCst (.int 2))) (qCons (e2 pIndex (eVar g3) (eCst (.int 2))) qNil)))]
/- is_chances_form -/
def b76 (tab : Tab) : List EvS := [
  sIf (tOr (tNot (tOfE (eCall (t3 tab) (qCons (eVar g1) (qCons (eVar g0) qNil))))) (tNot (tOfE (eQ qAll (qComp [s2] (iOf (eVar g1)) (gNm s2) tYes (cElt (eCall (t11 tab) (qCons (eVar g2) qNil)))))))) (sSeq [sRet (eCst (.bl false))]) (sSeq []),
  sRet (eAnd (eQ qAll (qComp [s2] (iOf (eVar g1)) (gNm s2) tYes (cElt (eAnd (e2 pGt (e2 pIndex (eVar g2) (eCst (.int 0))) (eCst (.int 0))) (eCall (t21 tab) (qCons (eVar g2) (qCons (eCst c_MOST_CHANCE) qNil))))))) (e2 pEq (eCall (t19 tab) (qCons (eVar g1) qNil)) (eCst c_WHOLE)))]
/- is_chances -/
def b77 (tab : Tab) : List EvS := [
  sEx (eCall (t7 tab) (qCons (eVar g0) qNil)),
  sRet (eCall (t76 tab) (qCons (eVar g0) (qCons (eVar g1) qNil)))]
/- sure_chances -/
def b78 (tab : Tab) : List EvS := [
  sEx (eCall (t7 tab) (qCons (eVar g0) qNil)),
  sAsg (gNm s2) (eCall (t2 tab) (qCons (eVar g1) qNil)),
  sIf (tNot (tOfE (eCall (t76 tab) (qCons (eVar g0) (qCons (eVar g2) qNil))))) (sSeq [sRaise 2]) (sSeq []),
  sRet (eVar g2)]
/- text_chance -/
def b79 (tab : Tab) : List EvS := [
  sPar [s3, s4] (qCons (eCall (t78 tab) (qCons (eVar g0) (qCons (eVar g1) qNil))) (qCons (eCst c_WHOLE) qNil)),
  sFor (iOf (eCall (t8 tab) (qCons (eVar g0) (qCons (eVar g2) qNil)))) (gNm s5) (sSeq [sAsg (gNm s4) (eCall (t14 tab) (qCons (eVar g4) (qCons (e2 pIndex (eVar g3) (e2 pSub (eVar g5) (eCst (.int 1)))) qNil)))]),
  sRet (eVar g4)]
/- chance_in -/
def b80 (tab : Tab) : List EvS := [
  sAsg (gNm s3) (eCall (t78 tab) (qCons (eVar g0) (qCons (eVar g1) qNil))),
  sRet (eCall (t72 tab) (qCons (eVar g0) (qCons (eCall (t36 tab) (qCons (eVar g0) (qCons (eVar g2) qNil))) (qCons (eVar g3) qNil))))]
/- limit_in -/
def b81 (tab : Tab) : List EvS := [
  sAsg (gNm s1) (eQ qList (qComp [s2, s3] (iOf (e2 pIndex (eVar g0) (eCst (.int 1)))) (gTup [gNm s2, gNm s3]) (tBl (e2 pEq (eVar g2) (eCst c_WHOLE))) (cElt (e2 pIndex (eVar g3) (eCst (.int 0)))))),
  sRet (eIte (tBl (e2 pNe (eVar g1) (eQ qList qNil))) (e2 pIndex (eVar g1) (eCst (.int 0))) (eCst c_NOUGHT))]
/- chance_sum -/
def b82 (tab : Tab) : List EvS := [
  sRet (eCall (t80 tab) (qCons (eVar g0) (qCons (eVar g1) (qCons (eVar g2) qNil))))]
/- chance_at -/
def b83 (tab : Tab) : List EvS := [
  sEx (eCall (t49 tab) (qCons (eVar g3) (qCons (eCst c_MOST_DRAWN) qNil))),
  sRet (eCall (t51 tab) (qCons (eCall (t80 tab) (qCons (eVar g0) (qCons (eVar g1) (qCons (eVar g2) qNil)))) (qCons (eVar g3) qNil)))]
/- limit_chance -/
def b84 (tab : Tab) : List EvS := [
  sRet (eCall (t81 tab) (qCons (eCall (t80 tab) (qCons (eVar g0) (qCons (eVar g1) (qCons (eVar g2) qNil)))) qNil))]
/- chance_given -/
def b85 (tab : Tab) : List EvS := [
  sPar [s4, s5, s6] (qCons (eCall (t78 tab) (qCons (eVar g0) (qCons (eVar g1) qNil))) (qCons (eCall (t36 tab) (qCons (eVar g0) (qCons (eVar g2) qNil))) (qCons (eCall (t36 tab) (qCons (eVar g0) (qCons (eVar g3) qNil))) qNil))),
  sPar [s7, s8] (qCons (eCall (t72 tab) (qCons (eVar g0) (qCons (eVar g5) (qCons (eVar g4) qNil)))) (qCons (eCall (t72 tab) (qCons (eVar g0) (qCons (eCall (t74 tab) (qCons (eVar g5) (qCons (eVar g6) qNil))) (qCons (eVar g4) qNil)))) qNil)),
  sIf (tBl (e2 pEq (e2 pIndex (eVar g7) (eCst (.int 1))) (eQ qTuple qNil))) (sSeq [sRaise 0]) (sSeq []),
  sRet (eCall (t75 tab) (qCons (eVar g8) (qCons (eVar g7) qNil)))]
/- reaches -/
def b86 (tab : Tab) : List EvS := [
  sPar [s4, s5] (qCons (eCall (t87 tab) (qCons (eVar g0) (qCons (eVar g1) (qCons (eVar g2) qNil)))) (qCons (eCall (t2 tab) (qCons (eVar g3) qNil)) qNil)),
  sIf (tOr (tNot (tOfE (eCall (t11 tab) (qCons (eVar g5) qNil)))) (tOr (tNot (tOfE (eCall (t21 tab) (qCons (eVar g5) (qCons (eCst c_MOST_SHARE) qNil))))) (tOr (tOfE (eCall (t16 tab) (qCons (eVar g5) (qCons (eCst c_NOUGHT) qNil)))) (tOfE (eCall (t16 tab) (qCons (eCst c_WHOLE) (qCons (eVar g5) qNil))))))) (sSeq [sRaise 2]) (sSeq []),
  sAsg (gNm s6) (eCall (t72 tab) (qCons (eVar g0) (qCons (e2 pIndex (eVar g4) (eCst (.int 1))) (qCons (e2 pIndex (eVar g4) (eCst (.int 0))) qNil)))),
  sRet (eCall (t62 tab) (qCons (eCall (t56 tab) (qCons (eVar g6) (qCons (eQ qTuple (qCons (eQ qTuple qNil) (qCons (eIte (tBl (e2 pNe (eVar g5) (eCst c_NOUGHT))) (eQ qTuple (qCons (eQ qTuple (qCons (eCst c_WHOLE) (qCons (eQ qTuple (qCons (eVar g5) qNil)) qNil))) qNil)) (eQ qTuple qNil)) qNil))) qNil))) qNil))]
/- chance_in_form -/
def b87 (tab : Tab) : List EvS := [
  sRet (eQ qTuple (qCons (eCall (t78 tab) (qCons (eVar g0) (qCons (eVar g1) qNil))) (qCons (eCall (t36 tab) (qCons (eVar g0) (qCons (eVar g2) qNil))) qNil)))]
/- _law_box -/
def b88 (tab : Tab) : List EvS := [
  sAsg (gNm s2) (eIte (tBl (e2 pLt (eVar g1) (e1 pLen (eVar g0)))) (e2 pIndex (eVar g0) (eVar g1)) (eCst (.int 0))),
  sRet (eQ qList (qCons (e2 pMul (e1 pAbs (eVar g2)) (e1 pInt (e2 pGe (e1 pAbs (eVar g2)) (e2 pPow (eCst (.int 10)) (eCst (.int 18)))))) (qCons (e2 pAdd (e2 pAdd (e2 pMod (e1 pInt (eVar g2)) (eCst (.int 2305843009213693951))) (e2 pMul (eCst (.int 39373)) (eVar g1))) (eCst (.int 2321777))) (qCons (eCst (.int 0)) qNil))))]
/- _law_take -/
def b89 (tab : Tab) : List EvS := [
  sIf (tBl (e2 pGt (e2 pIndex (eVar g0) (eCst (.int 0))) (eCst (.int 0)))) (sSeq [sAsg (gNm s2) (e2 pMod (e1 pInt (e2 pIndex (eVar g0) (eCst (.int 0)))) (eVar g1)), sAsg (gSub (eVar g0) (eCst (.int 0))) (e2 pFdiv (e2 pIndex (eVar g0) (eCst (.int 0))) (eVar g1)), sRet (eVar g2)]) (sSeq []),
  sAsg (gSub (eVar g0) (eCst (.int 2))) (e2 pAdd (e2 pIndex (eVar g0) (eCst (.int 2))) (eCst (.int 1))),
  sAsg (gNm s3) (e2 pMod (e1 pInt (e2 pMul (e2 pAdd (e2 pIndex (eVar g0) (eCst (.int 1))) (e2 pMul (eCst (.int 48271)) (e2 pIndex (eVar g0) (eCst (.int 2))))) (e2 pAdd (eCst (.int 39373)) (e2 pIndex (eVar g0) (eCst (.int 2)))))) (eCst (.int 2147483647))),
  sAsg (gNm s4) (e2 pAdd (e2 pMod (e1 pInt (eVar g3)) (eCst (.int 40009))) (eCst (.int 7))),
  sAsg (gNm s5) (e2 pMod (e1 pInt (e2 pMul (e2 pAdd (e2 pAdd (eVar g3) (e2 pIndex (eVar g0) (eCst (.int 2)))) (e2 pFdiv (e2 pIndex (eVar g0) (eCst (.int 1))) (eCst (.int 1000003)))) (eVar g4))) (eCst (.int 2147483629))),
  sRet (e2 pMod (e1 pInt (e2 pFdiv (e2 pMod (e1 pInt (e2 pAdd (e2 pMul (eVar g5) (eCst (.int 48271))) (eVar g3))) (eCst (.int 2147483587))) (eCst (.int 64)))) (eVar g1))]
/- _law_cells -/
def b90 (tab : Tab) : List EvS := [
  sAsg (gNm s2) (eOr (eQ qList (qKeys (eSlice (eVar g0) (eCst .non) (eVar g1)))) (eQ qList (qCons (eCst (.int 0)) qNil))),
  sFor (iEnum (eSlice (eVar g0) (eVar g1) (eCst (.int 63)))) (gTup [gNm s3, gNm s4]) (sSeq [sAsg (gNm s5) (e2 pMod (e1 pInt (eVar g3)) (eVar g1)), sAsg (gSub (eVar g2) (eVar g5)) (e2 pAdd (e2 pIndex (eVar g2) (eVar g5)) (e2 pMul (eVar g4) (e2 pAdd (eVar g3) (eCst (.int 2)))))]),
  sRet (eVar g2)]
/- _law_same -/
def b91 (tab : Tab) : List EvS := [
  sIf (tOfE (e1 (pIsinst [5, 4]) (eVar g1))) (sSeq [sIf (tOr (tBl (e2 pNe (e1 (pIsinst [5]) (eVar g0)) (e1 (pIsinst [5]) (eVar g1)))) (tBl (e2 pNe (e1 (pIsinst [4]) (eVar g0)) (e1 (pIsinst [4]) (eVar g1))))) (sSeq [sRet (eCst (.bl false))]) (sSeq []), sRet (eAnd (e2 pEq (e1 pLen (eVar g0)) (e1 pLen (eVar g1))) (eQ qAll (qComp [s2, s3] (iZip (eVar g0) (eVar g1)) (gTup [gNm s2, gNm s3]) tYes (cElt (eCall (t91 tab) (qCons (eVar g2) (qCons (eVar g3) qNil)))))))]) (sSeq []),
  sIf (tOr (tBl (e1 pIsN (eVar g1))) (tOfE (e1 (pIsinst [1, 3]) (eVar g1)))) (sSeq [sRet (eAnd (e2 pEq (eVar g0) (eVar g1)) (eAnd (e2 pEq (e1 (pIsinst [1]) (eVar g0)) (e1 (pIsinst [1]) (eVar g1))) (e2 pEq (e1 pIsN (eVar g0)) (e1 pIsN (eVar g1)))))]) (sSeq []),
  sRet (eAnd (e1 (pIsinst [2]) (eVar g0)) (eAnd (e1 pNot (e1 (pIsinst [1]) (eVar g0))) (e2 pEq (eVar g0) (eVar g1))))]
/- _law_lists -/
def b92 (tab : Tab) : List EvS := [
  sRet (eIte (tOfE (e1 (pIsinst [5, 4]) (eVar g0))) (eQ qList (qComp [s1] (iOf (eVar g0)) (gNm s1) tYes (cElt (eCall (t92 tab) (qCons (eVar g1) qNil))))) (eVar g0))]
/- _law_of -/
def b93 (tab : Tab) : List EvS := [
  sRet (e2 pIndex (eVar g1) (eCall (t89 tab) (qCons (eVar g0) (qCons (e1 pLen (eVar g1)) qNil))))]
/- _law_gcd -/
def b94 (tab : Tab) : List EvS := [
  sPar [s0, s1] (qCons (e1 pAbs (eVar g0)) (qCons (e1 pAbs (eVar g1)) qNil)),
  sWhl (tBl (e2 pNe (eVar g1) (eCst (.int 0)))) (sSeq [sPar [s0, s1] (qCons (eVar g1) (qCons (e2 pMod (e1 pInt (eVar g0)) (eVar g1)) qNil))]),
  sRet (eVar g0)]
/- _law_frac -/
def b95 (tab : Tab) : List EvS := [
  sAsg (gNm s2) (eCall (t94 tab) (qCons (eVar g0) (qCons (eVar g1) qNil))),
  sRet (eIte (tBl (e2 pGt (eVar g1) (eCst (.int 0)))) (eQ qTuple (qCons (e2 pFdiv (eVar g0) (eVar g2)) (qCons (e2 pFdiv (eVar g1) (eVar g2)) qNil))) (eQ qTuple (qCons (e2 pFdiv (e1 pNeg (eVar g0)) (eVar g2)) (qCons (e2 pFdiv (e1 pNeg (eVar g1)) (eVar g2)) qNil))))]
/- _law_raised -/
def b96 (tab : Tab) : List EvS := [
  sAsg (gNm s2) (eQ qTuple (qCons (eCst (.int 1)) (qCons (eCst (.int 1)) qNil))),
  sFor (iRng1 (eVar g1)) (gNm s3) (sSeq [sAsg (gNm s2) (eQ qTuple (qCons (e2 pMul (e2 pIndex (eVar g2) (eCst (.int 0))) (e2 pIndex (eVar g0) (eCst (.int 0)))) (qCons (e2 pMul (e2 pIndex (eVar g2) (eCst (.int 1))) (e2 pIndex (eVar g0) (eCst (.int 1)))) qNil)))]),
  sRet (eVar g2)]
/- _law_try -/
def b97 (tab : Tab) : List EvS := [
  sTry (sSeq [sIf (tBl (e2 pEq (eVar g0) (eCst (.int 0)))) (sSeq [sRet (eCall (t79 tab) (qCons (eVar g1) (qCons (eVar g2) (qCons (eVar g3) qNil))))]) (sSeq []), sIf (tBl (e2 pEq (eVar g0) (eCst (.int 1)))) (sSeq [sRet (eCall (t82 tab) (qCons (eVar g1) (qCons (eVar g2) (qCons (eVar g3) qNil))))]) (sSeq []), sIf (tBl (e2 pEq (eVar g0) (eCst (.int 2)))) (sSeq [sRet (eCall (t83 tab) (qCons (eVar g1) (qCons (eVar g2) (qCons (eVar g3) (qCons (eVar g4) qNil)))))]) (sSeq []), sIf (tBl (e2 pEq (eVar g0) (eCst (.int 3)))) (sSeq [sRet (eCall (t84 tab) (qCons (eVar g1) (qCons (eVar g2) (qCons (eVar g3) qNil))))]) (sSeq []), sRet (eIte (tBl (e2 pEq (eVar g0) (eCst (.int 4)))) (eCall (t85 tab) (qCons (eVar g1) (qCons (eVar g2) (qCons (eVar g3) (qCons (eVar g4) qNil))))) (eIte (tBl (e2 pEq (eVar g0) (eCst (.int 5)))) (eCall (t86 tab) (qCons (eVar g1) (qCons (eVar g2) (qCons (eVar g3) (qCons (eVar g4) qNil))))) (eCall (t77 tab) (qCons (eVar g1) (qCons (eVar g3) qNil)))))]) [(0, none, sSeq [sRet (eCst (.str [99, 97, 110, 32, 110, 111, 116]))]), (1, none, sSeq [sRet (eCst (.str [116, 111, 111, 32, 109, 117, 99, 104]))]), (2, none, sSeq [sRet (eCst (.str [117, 110, 102, 105, 116]))])]]
/- law -/
def b98 (tab : Tab) : List EvS := [
  sAsg (gNm s1) (eCall (t88 tab) (qCons (eCall (t90 tab) (qCons (eVar g0) (qCons (eCst (.int 1)) qNil))) (qCons (eCst (.int 0)) qNil))),
  sPar [s2, s3] (qCons (eCall (t89 tab) (qCons (eVar g1) (qCons (eCst (.int 40)) qNil))) (qCons (eQ qTuple (qCons (eCst (.str [108, 101, 116, 116, 101, 114])) (qCons (eQ qTuple (qCons (eCst (.int 1)) qNil)) qNil))) qNil)),
  sAsg (gTup [gNm s4, gNm s5, gNm s6]) (eQ qTuple (qCons (eQ qTuple (qCons (eQ qTuple (qCons (eCst (.int 1)) (qCons (eCst (.int 2)) qNil))) (qCons (eQ qTuple (qCons (eCst (.int 1)) (qCons (eCst (.int 2)) qNil))) qNil))) (qCons (eQ qTuple (qCons (eQ qTuple (qCons (eCst (.int 1)) (qCons (eCst (.int 3)) qNil))) (qCons (eQ qTuple (qCons (eCst (.int 2)) (qCons (eCst (.int 3)) qNil))) qNil))) (qCons (eQ qTuple (qCons (eQ qTuple (qCons (eCst (.int 1)) (qCons (eCst (.int 2)) qNil))) (qCons (eQ qTuple (qCons (eCst (.int 1)) (qCons (eCst (.int 3)) qNil))) (qCons (eQ qTuple (qCons (eCst (.int 1)) (qCons (eCst (.int 6)) qNil))) qNil)))) qNil)))),
  sAsg (gTup [gNm s7, gNm s8, gNm s9, gNm s10]) (eQ qTuple (qCons (eQ qTuple (qCons (eQ qTuple (qCons (eCst (.str [108, 97, 116, 101, 114])) (qCons (eVar g3) qNil))) (qCons (eQ qTuple (qCons (eCst (.str [121, 101, 115])) qNil)) qNil))) (qCons (eQ qTuple (qCons (eQ qTuple (qCons (eCst (.str [110, 111, 116])) (qCons (eQ qTuple (qCons (eCst (.str [108, 97, 116, 101, 114])) (qCons (eQ qTuple (qCons (eCst (.str [121, 101, 115])) qNil)) qNil))) qNil))) (qCons (eQ qTuple (qCons (eCst (.str [121, 101, 115])) qNil)) qNil))) (qCons (eQ qTuple (qCons (eQ qTuple (qCons (eCst (.str [121, 101, 115])) qNil)) (qCons (eQ qTuple (qCons (eCst (.str [121, 101, 115])) qNil)) qNil))) (qCons (eQ qTuple (qCons (eQ qTuple (qCons (eCst (.str [110, 111, 116])) (qCons (eQ qTuple (qCons (eCst (.str [121, 101, 115])) qNil)) qNil))) (qCons (eQ qTuple (qCons (eCst (.str [121, 101, 115])) qNil)) qNil))) qNil))))),
  sAsg (gNm s11) (eQ qTuple (qCons (eQ qTuple (qCons (eCst (.str [121, 101, 115])) qNil)) (qCons (eQ qTuple (qCons (eCst (.str [97, 104, 101, 97, 100])) (qCons (eQ qTuple (qCons (eCst (.str [97, 110, 100])) (qCons (eVar g3) (qCons (eQ qTuple (qCons (eCst (.str [110, 111, 116])) (qCons (eQ qTuple (qCons (eCst (.str [108, 97, 116, 101, 114])) (qCons (eQ qTuple (qCons (eCst (.str [121, 101, 115])) qNil)) qNil))) qNil))) qNil)))) qNil))) qNil))),
  sAsg (gNm s12) (eQ qTuple (qCons (eQ qTuple (qCons (eCst (.str [97, 110, 100])) (qCons (eQ qTuple (qCons (eCst (.str [108, 97, 116, 101, 114])) (qCons (eVar g3) qNil))) (qCons (eQ qTuple (qCons (eCst (.str [110, 111, 116])) (qCons (eQ qTuple (qCons (eCst (.str [108, 97, 116, 101, 114])) (qCons (eQ qTuple (qCons (eCst (.str [97, 110, 100])) (qCons (eVar g3) (qCons (eQ qTuple (qCons (eCst (.str [108, 97, 116, 101, 114])) (qCons (eVar g3) qNil))) qNil)))) qNil))) qNil))) qNil)))) (qCons (eQ qTuple (qCons (eCst (.str [121, 101, 115])) qNil)) qNil))),
  sAsg (gTup [gNm s13, gNm s14]) (eCall (t96 tab) (qCons (eQ qTuple (qCons (eCst (.int 2)) (qCons (eCst (.int 3)) qNil))) (qCons (eVar g2) qNil))),
  sAsg (gNm s15) (eQ qList (qCons (eCall (t83 tab) (qCons (eCst (.int 2)) (qCons (eVar g5) (qCons (eVar g7) (qCons (eVar g2) qNil))))) (qCons (eCall (t83 tab) (qCons (eCst (.int 2)) (qCons (eVar g5) (qCons (eVar g8) (qCons (eVar g2) qNil))))) (qCons (eCall (t83 tab) (qCons (eCst (.int 3)) (qCons (eVar g6) (qCons (eVar g9) (qCons (eVar g2) qNil))))) (qCons (eCall (t83 tab) (qCons (eCst (.int 2)) (qCons (eVar g5) (qCons (eVar g10) (qCons (eVar g2) qNil))))) (qCons (eCall (t83 tab) (qCons (eCst (.int 2)) (qCons (eVar g5) (qCons (eVar g11) (qCons (eVar g2) qNil))))) (qCons (eCall (t83 tab) (qCons (eCst (.int 2)) (qCons (eVar g5) (qCons (eVar g12) (qCons (eVar g2) qNil))))) qNil))))))),
  sAsg (gNm s16) (eQ qList (qCons (eIte (tBl (e2 pGt (eVar g2) (eCst (.int 0)))) (eQ qTuple (qCons (e2 pSub (eVar g14) (eVar g13)) (qCons (eVar g14) qNil))) (eQ qTuple (qCons (eCst (.int 0)) (qCons (eCst (.int 1)) qNil)))) (qCons (eQ qTuple (qCons (e1 pInt (e2 pEq (eVar g2) (eCst (.int 0)))) (qCons (eCst (.int 1)) qNil))) (qCons (eQ qTuple (qCons (eCst (.int 1)) (qCons (eCst (.int 1)) qNil))) (qCons (eQ qTuple (qCons (eCst (.int 0)) (qCons (eCst (.int 1)) qNil))) (qCons (eIte (tBl (e2 pGt (eVar g2) (eCst (.int 0)))) (eQ qTuple (qCons (eCst (.int 1)) (qCons (eCst (.int 3)) qNil))) (eQ qTuple (qCons (eCst (.int 0)) (qCons (eCst (.int 1)) qNil)))) (qCons (eCall (t95 tab) (qCons (e2 pMul (eVar g2) (eVar g13)) (qCons (e2 pMul (eCst (.int 2)) (eVar g14)) qNil))) qNil))))))),
  sIf (tNot (tOfE (eCall (t91 tab) (qCons (eVar g15) (qCons (eVar g16) qNil))))) (sSeq [sRet (eCst (.bl false))]) (sSeq []),
  sAsg (gNm s15) (eQ qList (qCons (eCall (t82 tab) (qCons (eCst (.int 2)) (qCons (eVar g5) (qCons (eVar g7) qNil)))) (qCons (eCall (t82 tab) (qCons (eCst (.int 2)) (qCons (eVar g5) (qCons (eVar g12) qNil)))) (qCons (eCall (t82 tab) (qCons (eCst (.int 3)) (qCons (eVar g6) (qCons (eVar g9) qNil)))) (qCons (eCall (t82 tab) (qCons (eCst (.int 2)) (qCons (eVar g5) (qCons (eVar g11) qNil)))) (qCons (eCall (t82 tab) (qCons (eCst (.int 1)) (qCons (eQ qTuple (qCons (eQ qTuple (qCons (eCst (.int 1)) (qCons (eCst (.int 1)) qNil))) qNil)) (qCons (eVar g7) qNil)))) (qCons (eCall (t82 tab) (qCons (eCst (.int 2)) (qCons (eVar g4) (qCons (eVar g8) qNil)))) qNil))))))),
  sAsg (gNm s16) (eQ qList (qCons (eQ qTuple (qCons (eQ qTuple qNil) (qCons (eQ qTuple (qCons (eQ qTuple (qCons (eQ qTuple (qCons (eCst (.int 2)) (qCons (eCst (.int 3)) qNil))) (qCons (eQ qTuple (qCons (eQ qTuple (qCons (e1 pNeg (eCst (.int 1))) (qCons (eCst (.int 1)) qNil))) qNil)) qNil))) (qCons (eQ qTuple (qCons (eQ qTuple (qCons (eCst (.int 1)) (qCons (eCst (.int 1)) qNil))) (qCons (eQ qTuple (qCons (eQ qTuple (qCons (eCst (.int 1)) (qCons (eCst (.int 1)) qNil))) qNil)) qNil))) qNil))) qNil))) (qCons (eQ qTuple (qCons (eQ qTuple qNil) (qCons (eQ qTuple (qCons (eQ qTuple (qCons (eQ qTuple (qCons (eCst (.int 2)) (qCons (eCst (.int 3)) qNil))) (qCons (eQ qTuple (qCons (eQ qTuple (qCons (eCst (.int 0)) (qCons (eCst (.int 1)) qNil))) (qCons (eQ qTuple (qCons (eCst (.int 1)) (qCons (eCst (.int 2)) qNil))) qNil))) qNil))) qNil)) qNil))) (qCons (eQ qTuple (qCons (eQ qTuple qNil) (qCons (eQ qTuple (qCons (eQ qTuple (qCons (eQ qTuple (qCons (eCst (.int 1)) (qCons (eCst (.int 1)) qNil))) (qCons (eQ qTuple (qCons (eQ qTuple (qCons (eCst (.int 1)) (qCons (eCst (.int 1)) qNil))) qNil)) qNil))) qNil)) qNil))) (qCons (eQ qTuple (qCons (eQ qTuple (qCons (eQ qTuple (qCons (eCst (.int 0)) (qCons (eCst (.int 1)) qNil))) qNil)) (qCons (eQ qTuple (qCons (eQ qTuple (qCons (eQ qTuple (qCons (eCst (.int 1)) (qCons (eCst (.int 1)) qNil))) (qCons (eQ qTuple (qCons (eQ qTuple (qCons (eCst (.int 1)) (qCons (eCst (.int 3)) qNil))) qNil)) qNil))) qNil)) qNil))) qNil))))),
  sAsg (gNm s16) (e2 pAdd (eVar g16) (eQ qList (qCons (eQ qTuple (qCons (eQ qTuple (qCons (eQ qTuple (qCons (eCst (.int 0)) (qCons (eCst (.int 1)) qNil))) qNil)) (qCons (eQ qTuple (qCons (eQ qTuple (qCons (eQ qTuple (qCons (eCst (.int 1)) (qCons (eCst (.int 1)) qNil))) (qCons (eQ qTuple (qCons (eQ qTuple (qCons (eCst (.int 1)) (qCons (eCst (.int 1)) qNil))) qNil)) qNil))) qNil)) qNil))) (qCons (eQ qTuple (qCons (eQ qTuple (qCons (eQ qTuple (qCons (eCst (.int 1)) (qCons (eCst (.int 1)) qNil))) qNil)) (qCons (eQ qTuple qNil) qNil))) qNil)))),
  sIf (tNot (tOfE (eCall (t91 tab) (qCons (eVar g15) (qCons (eVar g16) qNil))))) (sSeq [sRet (eCst (.bl false))]) (sSeq []),
  sAsg (gNm s15) (eQ qList (qCons (eCall (t84 tab) (qCons (eCst (.int 2)) (qCons (eVar g5) (qCons (eVar g7) qNil)))) (qCons (eCall (t84 tab) (qCons (eCst (.int 2)) (qCons (eVar g5) (qCons (eVar g12) qNil)))) (qCons (eCall (t84 tab) (qCons (eCst (.int 3)) (qCons (eVar g6) (qCons (eVar g11) qNil)))) (qCons (eCall (t84 tab) (qCons (eCst (.int 2)) (qCons (eVar g5) (qCons (eVar g10) qNil)))) (qCons (eCall (t85 tab) (qCons (eCst (.int 2)) (qCons (eVar g5) (qCons (eVar g7) (qCons (eVar g11) qNil))))) qNil)))))),
  sAsg (gNm s15) (e2 pAdd (eVar g15) (eQ qList (qCons (eCall (t85 tab) (qCons (eCst (.int 2)) (qCons (eVar g5) (qCons (eVar g12) (qCons (eVar g11) qNil))))) (qCons (eCall (t85 tab) (qCons (eCst (.int 2)) (qCons (eVar g5) (qCons (eVar g11) (qCons (eVar g7) qNil))))) (qCons (eCall (t85 tab) (qCons (eCst (.int 3)) (qCons (eVar g6) (qCons (eVar g9) (qCons (eVar g11) qNil))))) qNil))))),
  sIf (tNot (tOfE (eCall (t91 tab) (qCons (eVar g15) (qCons (eQ qList (qCons (eQ qTuple (qCons (eCst (.int 1)) (qCons (eCst (.int 1)) qNil))) (qCons (eQ qTuple (qCons (eCst (.int 0)) (qCons (eCst (.int 1)) qNil))) (qCons (eQ qTuple (qCons (eCst (.int 1)) (qCons (eCst (.int 2)) qNil))) (qCons (eQ qTuple (qCons (eCst (.int 0)) (qCons (eCst (.int 1)) qNil))) (qCons (eQ qTuple (qCons (eCst (.int 1)) (qCons (eCst (.int 3)) qNil))) (qCons (eQ qTuple (qCons (eCst (.int 0)) (qCons (eCst (.int 1)) qNil))) (qCons (eQ qTuple (qCons (eCst (.int 1)) (qCons (eCst (.int 1)) qNil))) (qCons (eQ qTuple (qCons (eCst (.int 1)) (qCons (eCst (.int 2)) qNil))) qNil))))))))) qNil))))) (sSeq [sRet (eCst (.bl false))]) (sSeq []),
  sAsg (gNm s15) (eQ qList (qCons (eCall (t86 tab) (qCons (eCst (.int 2)) (qCons (eVar g4) (qCons (eVar g7) (qCons (eQ qTuple (qCons (eCst (.int 9)) (qCons (eCst (.int 10)) qNil))) qNil))))) (qCons (eCall (t86 tab) (qCons (eCst (.int 2)) (qCons (eVar g4) (qCons (eVar g7) (qCons (eQ qTuple (qCons (eCst (.int 1)) (qCons (eCst (.int 1)) qNil))) qNil))))) (qCons (eCall (t86 tab) (qCons (eCst (.int 2)) (qCons (eVar g5) (qCons (eVar g11) (qCons (eQ qTuple (qCons (eCst (.int 1)) (qCons (eCst (.int 3)) qNil))) qNil))))) (qCons (eCall (t86 tab) (qCons (eCst (.int 2)) (qCons (eVar g5) (qCons (eVar g11) (qCons (eQ qTuple (qCons (eCst (.int 0)) (qCons (eCst (.int 1)) qNil))) qNil))))) (qCons (eCall (t86 tab) (qCons (eCst (.int 2)) (qCons (eVar g5) (qCons (eVar g12) (qCons (eQ qTuple (qCons (eCst (.int 1)) (qCons (eCst (.int 10)) qNil))) qNil))))) qNil)))))),
  sAsg (gNm s15) (e2 pAdd (eVar g15) (eQ qList (qCons (eCall (t86 tab) (qCons (eCst (.int 2)) (qCons (eVar g5) (qCons (eVar g10) (qCons (eQ qTuple (qCons (eCst (.int 0)) (qCons (eCst (.int 1)) qNil))) qNil))))) (qCons (eCall (t86 tab) (qCons (eCst (.int 2)) (qCons (eVar g4) (qCons (eVar g12) (qCons (eQ qTuple (qCons (eCst (.int 0)) (qCons (eCst (.int 1)) qNil))) qNil))))) qNil)))),
  sIf (tNot (tOfE (eCall (t91 tab) (qCons (eVar g15) (qCons (eQ qList (qCons (eQ qTuple (qCons (eCst (.int 1)) (qCons (eCst (.int 4)) qNil))) (qCons (eQ qTuple (qCons (e1 pNeg (eCst (.int 1))) (qCons (eCst (.int 0)) qNil))) (qCons (eQ qTuple (qCons (eCst (.int 0)) (qCons (eCst (.int 1)) qNil))) (qCons (eQ qTuple (qCons (eCst (.int 1)) (qCons (eCst (.int 1)) qNil))) (qCons (eQ qTuple (qCons (e1 pNeg (eCst (.int 1))) (qCons (eCst (.int 10)) qNil))) (qCons (eQ qTuple (qCons (eCst (.int 0)) (qCons (eCst (.int 0)) qNil))) (qCons (eQ qTuple (qCons (eCst (.int 1)) (qCons (eCst (.int 1)) qNil))) qNil)))))))) qNil))))) (sSeq [sRet (eCst (.bl false))]) (sSeq []),
  sAsg (gNm s15) (eQ qList (qCons (eCall (t79 tab) (qCons (eCst (.int 2)) (qCons (eVar g5) (qCons (eQ qTuple qNil) qNil)))) (qCons (eCall (t79 tab) (qCons (eCst (.int 2)) (qCons (eVar g5) (qCons (eQ qTuple (qCons (eCst (.int 1)) (qCons (eCst (.int 2)) qNil))) qNil)))) (qCons (eCall (t79 tab) (qCons (eCst (.int 3)) (qCons (eVar g6) (qCons (eQ qList (qCons (eCst (.int 3)) (qCons (eCst (.int 3)) (qCons (eCst (.int 1)) qNil)))) qNil)))) (qCons (eCall (t77 tab) (qCons (eCst (.int 2)) (qCons (eVar g5) qNil))) (qCons (eCall (t77 tab) (qCons (eCst (.int 3)) (qCons (eVar g6) qNil))) (qCons (eCall (t77 tab) (qCons (eCst (.int 2)) (qCons (eCall (t92 tab) (qCons (eVar g5) qNil)) qNil))) qNil))))))),
  sAsg (gNm s15) (e2 pAdd (eVar g15) (eQ qList (qCons (eCall (t77 tab) (qCons (eCst (.int 3)) (qCons (eVar g5) qNil))) (qCons (eCall (t77 tab) (qCons (eCst (.int 2)) (qCons (eQ qTuple (qCons (eQ qTuple (qCons (eCst (.int 1)) (qCons (eCst (.int 2)) qNil))) (qCons (eQ qTuple (qCons (eCst (.int 1)) (qCons (eCst (.int 3)) qNil))) qNil))) qNil))) (qCons (eCall (t77 tab) (qCons (eCst (.int 2)) (qCons (eQ qTuple (qCons (eQ qTuple (qCons (eCst (.int 2)) (qCons (eCst (.int 4)) qNil))) (qCons (eQ qTuple (qCons (eCst (.int 1)) (qCons (eCst (.int 2)) qNil))) qNil))) qNil))) (qCons (eCall (t77 tab) (qCons (eCst (.int 2)) (qCons (eQ qTuple (qCons (eQ qTuple (qCons (eCst (.int 1)) (qCons (eCst (.int 61)) qNil))) (qCons (eQ qTuple (qCons (eCst (.int 60)) (qCons (eCst (.int 61)) qNil))) qNil))) qNil))) (qCons (eCall (t77 tab) (qCons (eCst (.int 2)) (qCons (eQ qTuple (qCons (eQ qTuple (qCons (eCst (.int 1)) (qCons (eCst (.int 1)) qNil))) (qCons (eQ qTuple (qCons (eCst (.int 0)) (qCons (eCst (.int 1)) qNil))) qNil))) qNil))) qNil))))))),
  sAsg (gNm s15) (e2 pAdd (eVar g15) (eQ qList (qCons (eCall (t77 tab) (qCons (eCst (.int 1)) (qCons (eQ qTuple (qCons (eQ qTuple (qCons (eCst (.int 1)) (qCons (eCst (.int 1)) qNil))) qNil)) qNil))) (qCons (eCall (t77 tab) (qCons (eCst (.int 2)) (qCons (eCst (.non)) qNil))) qNil)))),
  sIf (tNot (tOfE (eCall (t91 tab) (qCons (eVar g15) (qCons (eQ qList (qCons (eQ qTuple (qCons (eCst (.int 1)) (qCons (eCst (.int 1)) qNil))) (qCons (eQ qTuple (qCons (eCst (.int 2)) (qCons (eCst (.int 9)) qNil))) (qCons (eQ qTuple (qCons (eCst (.int 1)) (qCons (eCst (.int 72)) qNil))) (qCons (eCst (.bl true)) (qCons (eCst (.bl true)) (qCons (eCst (.bl false)) (qCons (eCst (.bl false)) (qCons (eCst (.bl false)) (qCons (eCst (.bl false)) (qCons (eCst (.bl false)) (qCons (eCst (.bl false)) (qCons (eCst (.bl true)) (qCons (eCst (.bl false)) qNil)))))))))))))) qNil))))) (sSeq [sRet (eCst (.bl false))]) (sSeq []),
  sAsg (gNm s17) (eVar g3),
  sFor (iRng1 (eCst (.int 7))) (gNm s18) (sSeq [sAsg (gNm s17) (eQ qTuple (qCons (eCst (.str [97, 104, 101, 97, 100])) (qCons (eVar g17) qNil)))]),
  sAsg (gNm s19) (eCall (t93 tab) (qCons (eVar g1) (qCons (eQ qList (qCons (eQ qTuple (qCons (eQ qTuple (qCons (eCst (.int 1)) (qCons (eCst (.int 2)) qNil))) (qCons (eQ qTuple (qCons (eCst (.int 1)) (qCons (eCst (.int 3)) qNil))) qNil))) (qCons (eQ qTuple (qCons (eQ qTuple (qCons (eCst (.int 1)) (qCons (eCst (.int 2)) qNil))) qNil)) (qCons (eCst (.int 0)) (qCons (eQ qTuple (qCons (eQ qTuple (qCons (eCst (.int 1)) (qCons (eCst (.int 1)) qNil))) (qCons (eQ qTuple (qCons (eCst (.int 0)) (qCons (eCst (.int 1)) qNil))) qNil))) (qCons (eQ qTuple (qCons (eQ qTuple (qCons (eCst (.int 1)) (qCons (eCst (.int 61)) qNil))) (qCons (eQ qTuple (qCons (eCst (.int 60)) (qCons (eCst (.int 61)) qNil))) qNil))) qNil)))))) qNil))),
  sAsg (gNm s15) (eQ qList (qComp [s20] (iOf (eQ qTuple (qCons (eCst (.int 1)) (qCons (eCst (.int 2)) (qCons (eCst (.int 3)) (qCons (eCst (.int 4)) (qCons (eCst (.int 5)) qNil))))))) (gNm s20) tYes (cElt (eCall (t97 tab) (qCons (eVar g20) (qCons (eCst (.int 2)) (qCons (eVar g19) (qCons (eVar g7) (qCons (eIte (tBl (e2 pEq (eVar g20) (eCst (.int 5)))) (eQ qTuple (qCons (eCst (.int 1)) (qCons (eCst (.int 2)) qNil))) (eIte (tBl (e2 pEq (eVar g20) (eCst (.int 2)))) (eCst (.int 3)) (eVar g7))) qNil))))))))),
  sAsg (gNm s15) (e2 pAdd (eVar g15) (eQ qList (qCons (eCall (t97 tab) (qCons (eCst (.int 0)) (qCons (eCst (.int 2)) (qCons (eVar g19) (qCons (eQ qTuple (qCons (eCst (.int 1)) qNil)) (qCons (eCst (.int 0)) qNil)))))) (qCons (eCall (t97 tab) (qCons (eCst (.int 0)) (qCons (eCst (.int 2)) (qCons (eVar g5) (qCons (eQ qTuple (qCons (eCst (.int 3)) qNil)) (qCons (eCst (.int 0)) qNil)))))) (qCons (eCall (t97 tab) (qCons (eCst (.int 1)) (qCons (eCst (.int 2)) (qCons (eVar g5) (qCons (eQ qTuple (qCons (eCst (.str [121, 101, 115])) qNil)) (qCons (eCst (.int 0)) qNil)))))) qNil))))),
  sAsg (gNm s15) (e2 pAdd (eVar g15) (eQ qList (qCons (eCall (t97 tab) (qCons (eCst (.int 2)) (qCons (eCst (.int 2)) (qCons (eVar g5) (qCons (eVar g7) (qCons (e1 pNeg (eCst (.int 1))) qNil)))))) (qCons (eCall (t97 tab) (qCons (eCst (.int 2)) (qCons (eCst (.int 2)) (qCons (eVar g5) (qCons (eVar g7) (qCons (eCst (.int 301)) qNil)))))) (qCons (eCall (t97 tab) (qCons (eCst (.int 5)) (qCons (eCst (.int 2)) (qCons (eVar g5) (qCons (eVar g7) (qCons (eQ qTuple (qCons (eCst (.int 3)) (qCons (eCst (.int 2)) qNil))) qNil)))))) (qCons (eCall (t97 tab) (qCons (eCst (.int 5)) (qCons (eCst (.int 2)) (qCons (eVar g5) (qCons (eVar g7) (qCons (eQ qTuple (qCons (e1 pNeg (eCst (.int 1))) (qCons (eCst (.int 2)) qNil))) qNil)))))) qNil)))))),
  sAsg (gNm s15) (e2 pAdd (eVar g15) (eQ qList (qCons (eCall (t97 tab) (qCons (eCst (.int 5)) (qCons (eCst (.int 2)) (qCons (eVar g5) (qCons (eVar g7) (qCons (eQ qTuple (qCons (eCst (.int 1)) (qCons (eCst (.int 1001)) qNil))) qNil)))))) (qCons (eCall (t97 tab) (qCons (eCst (.int 5)) (qCons (eCst (.int 2)) (qCons (eVar g5) (qCons (eVar g7) (qCons (eCst (.int 1)) qNil)))))) (qCons (eCall (t97 tab) (qCons (eCst (.int 6)) (qCons (eCst (.int 4)) (qCons (eCst (.int 0)) (qCons (eVar g5) (qCons (eCst (.int 0)) qNil)))))) (qCons (eCall (t97 tab) (qCons (eCst (.int 1)) (qCons (eCst (.int 3)) (qCons (eVar g5) (qCons (eVar g7) (qCons (eCst (.int 0)) qNil)))))) qNil)))))),
  sIf (tNot (tOfE (eCall (t91 tab) (qCons (eVar g15) (qCons (e2 pMul (eQ qList (qCons (eCst (.str [117, 110, 102, 105, 116])) qNil)) (eCst (.int 16))) qNil))))) (sSeq [sRet (eCst (.bl false))]) (sSeq []),
  sAsg (gNm s15) (e2 pAdd (eQ qList (qComp [s20] (iOf (eQ qTuple (qCons (eCst (.int 1)) (qCons (eCst (.int 2)) (qCons (eCst (.int 3)) (qCons (eCst (.int 4)) (qCons (eCst (.int 5)) qNil))))))) (gNm s20) tYes (cElt (eCall (t97 tab) (qCons (eVar g20) (qCons (eCst (.int 2)) (qCons (eVar g5) (qCons (eQ qTuple (qCons (eQ qTuple (qCons (eCst (.str [121, 101, 115])) qNil)) (qCons (eVar g17) qNil))) (qCons (eIte (tBl (e2 pEq (eVar g20) (eCst (.int 5)))) (eQ qTuple (qCons (eCst (.int 1)) (qCons (eCst (.int 2)) qNil))) (eIte (tBl (e2 pEq (eVar g20) (eCst (.int 2)))) (eCst (.int 3)) (eVar g7))) qNil))))))))) (eQ qList (qCons (eCall (t97 tab) (qCons (eCst (.int 4)) (qCons (eCst (.int 2)) (qCons (eVar g5) (qCons (eVar g8) (qCons (eVar g7) qNil)))))) (qCons (eCall (t97 tab) (qCons (eCst (.int 4)) (qCons (eCst (.int 2)) (qCons (eVar g5) (qCons (eVar g10) (qCons (eVar g10) qNil)))))) qNil)))),
  sRet (eCall (t91 tab) (qCons (eVar g15) (qCons (e2 pAdd (e2 pMul (eQ qList (qCons (eCst (.str [116, 111, 111, 32, 109, 117, 99, 104])) qNil)) (eCst (.int 5))) (e2 pMul (eQ qList (qCons (eCst (.str [99, 97, 110, 32, 110, 111, 116])) qNil)) (eCst (.int 2)))) qNil)))]
def d0 : Dat := ⟨⟨("_wall", none), "_wall", "_wall", defArgs (top 0), defBody (top 0), defScope (top 0), [], []⟩, ["k"], ["k"], some b0, false⟩
def d1 : Dat := ⟨⟨("is_number", none), "is_number", "is_number", defArgs (top 6), defBody (top 6), defScope (top 6), [], []⟩, ["thing"], ["thing"], some b1, false⟩
def d2 : Dat := ⟨⟨("tuple_of", none), "tuple_of", "tuple_of", defArgs (top 7), defBody (top 7), defScope (top 7), [], []⟩, ["thing", "part"], ["thing"], some b2, false⟩
def d3 : Dat := ⟨⟨("is_tuple_of", none), "is_tuple_of", "is_tuple_of", defArgs (top 8), defBody (top 8), defScope (top 8), [], []⟩, ["thing", "many"], ["thing", "many"], some b3, false⟩
def d4 : Dat := ⟨⟨("is_letter_set", none), "is_letter_set", "is_letter_set", defArgs (top 12), defBody (top 12), defScope (top 12), [], []⟩, ["wide", "thing", "own", "near", "far"], ["wide", "thing"], some b4, false⟩
def d5 : Dat := ⟨⟨("is_letter", none), "is_letter", "is_letter", defArgs (top 14), defBody (top 14), defScope (top 14), [], []⟩, ["wide", "thing"], ["wide", "thing"], some b5, false⟩
def d6 : Dat := ⟨⟨("is_text", none), "is_text", "is_text", defArgs (top 15), defBody (top 15), defScope (top 15), [], []⟩, ["wide", "thing", "own"], ["wide", "thing"], some b6, false⟩
def d7 : Dat := ⟨⟨("sure_wide_of", none), "sure_wide_of", "sure_wide_of", defArgs (top 17), defBody (top 17), defScope (top 17), [], []⟩, ["wide"], ["wide"], some b7, false⟩
def d8 : Dat := ⟨⟨("sure_letters_of", none), "sure_letters_of", "sure_letters_of", defArgs (top 18), defBody (top 18), defScope (top 18), [], []⟩, ["wide", "text", "own"], ["wide", "text"], some b8, false⟩
def d9 : Dat := ⟨⟨("divisor", none), "divisor", "divisor", defArgs (top 22), defBody (top 22), defScope (top 22), [], []⟩, ["one", "other", "near", "far"], ["one", "other"], some b9, false⟩
def d10 : Dat := ⟨⟨("ratio_of", none), "ratio_of", "ratio_of", defArgs (top 23), defBody (top 23), defScope (top 23), [], []⟩, ["top", "under", "most"], ["top", "under"], some b10, false⟩
def d11 : Dat := ⟨⟨("is_fraction", none), "is_fraction", "is_fraction", defArgs (top 24), defBody (top 24), defScope (top 24), [], []⟩, ["thing", "own"], ["thing"], some b11, false⟩
def d12 : Dat := ⟨⟨("plus", none), "plus", "plus", defArgs (top 25), defBody (top 25), defScope (top 25), [], []⟩, ["one", "other"], ["one", "other"], some b12, false⟩
def d13 : Dat := ⟨⟨("less", none), "less", "less", defArgs (top 26), defBody (top 26), defScope (top 26), [], []⟩, ["one", "other"], ["one", "other"], some b13, false⟩
def d14 : Dat := ⟨⟨("times", none), "times", "times", defArgs (top 27), defBody (top 27), defScope (top 27), [], []⟩, ["one", "other"], ["one", "other"], some b14, false⟩
def d15 : Dat := ⟨⟨("over", none), "over", "over", defArgs (top 28), defBody (top 28), defScope (top 28), [], []⟩, ["one", "other"], ["one", "other"], some b15, false⟩
def d16 : Dat := ⟨⟨("is_below", none), "is_below", "is_below", defArgs (top 29), defBody (top 29), defScope (top 29), [], []⟩, ["one", "other"], ["one", "other"], some b16, false⟩
def d17 : Dat := ⟨⟨("power", none), "power", "power", defArgs (top 30), defBody (top 30), defScope (top 30), [], []⟩, ["base", "many", "found", "own", "rest"], ["base", "many"], some b17, false⟩
def d18 : Dat := ⟨⟨("raised", none), "raised", "raised", defArgs (top 31), defBody (top 31), defScope (top 31), [], []⟩, ["own", "many"], ["own", "many"], some b18, false⟩
def d19 : Dat := ⟨⟨("summed", none), "summed", "summed", defArgs (top 32), defBody (top 32), defScope (top 32), [], []⟩, ["some", "found", "own"], ["some"], some b19, false⟩
def d20 : Dat := ⟨⟨("sign_of", none), "sign_of", "sign_of", defArgs (top 33), defBody (top 33), defScope (top 33), [], []⟩, ["own"], ["own"], some b20, false⟩
def d21 : Dat := ⟨⟨("is_small", none), "is_small", "is_small", defArgs (top 34), defBody (top 34), defScope (top 34), [], []⟩, ["own", "most"], ["own", "most"], some b21, false⟩
def d22 : Dat := ⟨⟨("parts_of_mood", none), "parts_of_mood", "parts_of_mood", defArgs (top 38), defBody (top 38), defScope (top 38), [], []⟩, ["wide", "thing", "word"], ["wide", "thing"], some b22, false⟩
def d23 : Dat := ⟨⟨("is_mood", none), "is_mood", "is_mood", defArgs (top 39), defBody (top 39), defScope (top 39), [], []⟩, ["wide", "thing", "line", "parts"], ["wide", "thing"], some b23, false⟩
def d24 : Dat := ⟨⟨("inner_moods", none), "inner_moods", "inner_moods", defArgs (top 40), defBody (top 40), defScope (top 40), [], []⟩, ["own"], ["own"], some b24, false⟩
def d25 : Dat := ⟨⟨("mood_size_in", none), "mood_size_in", "mood_size_in", defArgs (top 41), defBody (top 41), defScope (top 41), [], []⟩, ["own", "part"], ["own"], some b25, false⟩
def d26 : Dat := ⟨⟨("watched_in", none), "watched_in", "watched_in", defArgs (top 45), defBody (top 45), defScope (top 45), [], []⟩, ["moods", "line", "found", "own", "ranked", "_"], ["moods"], some b26, false⟩
def d27 : Dat := ⟨⟨("Stands", some "__init__"), "__init__", "Stands.__init__", defArgs (mem 46 0), defBody (mem 46 0), defScope (mem 46 0), [], []⟩, ["self", "moods"], ["self", "moods"], some b27, false⟩
def d28 : Dat := ⟨⟨("Stands", some "told"), "told", "Stands.told", defArgs (mem 46 1), defBody (mem 46 1), defScope (mem 46 1), [], []⟩, ["self", "own", "letter", "before", "beyond", "word"], ["self", "own", "letter", "before", "beyond"], some b28, false⟩
def d29 : Dat := ⟨⟨("Stands", some "hits"), "hits", "Stands.hits", defArgs (mem 46 2), defBody (mem 46 2), defScope (mem 46 2), [], []⟩, ["self", "word", "letter", "before", "beyond", "place", "own"], ["self", "word", "letter", "before", "beyond"], some b29, false⟩
def d30 : Dat := ⟨⟨("Stands", some "steps"), "steps", "Stands.steps", defArgs (mem 46 3), defBody (mem 46 3), defScope (mem 46 3), [], []⟩, ["self", "gap", "letter", "before", "beyond", "found", "left"], ["self", "gap", "letter"], some b30, false⟩
def d31 : Dat := ⟨⟨("Stands", some "starts"), "starts", "Stands.starts", defArgs (mem 46 4), defBody (mem 46 4), defScope (mem 46 4), [], []⟩, ["self", "mood", "later", "place", "own"], ["self", "mood"], some b31, false⟩
def d32 : Dat := ⟨⟨("Stands", some "ends"), "ends", "Stands.ends", defArgs (mem 46 5), defBody (mem 46 5), defScope (mem 46 5), [], []⟩, ["self", "gap", "mood"], ["self", "gap", "mood"], some b32, false⟩
def d33 : Dat := ⟨⟨("joined", none), "joined", "joined", defArgs (top 47), defBody (top 47), defScope (top 47), [], []⟩, ["one", "other"], ["one", "other"], some b33, false⟩
def d34 : Dat := ⟨⟨("subsets", none), "subsets", "subsets", defArgs (top 48), defBody (top 48), defScope (top 48), [], []⟩, ["some", "found", "own", "one"], ["some"], some b34, false⟩
def d35 : Dat := ⟨⟨("is_demand", none), "is_demand", "is_demand", defArgs (top 49), defBody (top 49), defScope (top 49), [], []⟩, ["wide", "thing"], ["wide", "thing"], some b35, false⟩
def d36 : Dat := ⟨⟨("sure_demand", none), "sure_demand", "sure_demand", defArgs (top 50), defBody (top 50), defScope (top 50), [], []⟩, ["wide", "demand", "own"], ["wide", "demand"], some b36, false⟩
def d37 : Dat := ⟨⟨("Going", some "__init__"), "__init__", "Going.__init__", defArgs (mem 51 0), defBody (mem 51 0), defScope (mem 51 0), [], []⟩, ["self", "wide", "demand", "line", "gap", "goals", "letter"], ["self", "wide", "demand"], some b37, false⟩
def d38 : Dat := ⟨⟨("Going", some "far"), "far", "Going.far", defArgs (mem 51 1), defBody (mem 51 1), defScope (mem 51 1), [], []⟩, ["self", "found", "many", "new", "gap", "row", "goals", "goal"], ["self"], some b38, false⟩
def d39 : Dat := ⟨⟨("Going", some "least"), "least", "Going.least", defArgs (mem 51 2), defBody (mem 51 2), defScope (mem 51 2), [], []⟩, ["self", "far", "some", "left", "text", "letter", "gap"], ["self"], some b39, false⟩
def d40 : Dat := ⟨⟨("Going", some "on"), "on", "Going.on", defArgs (mem 51 3), defBody (mem 51 3), defScope (mem 51 3), [], []⟩, ["self", "some", "far", "left", "letter", "found", "gap", "goal"], ["self", "some", "far", "left"], some b40, false⟩
def d41 : Dat := ⟨⟨("trimmed", none), "trimmed", "trimmed", defArgs (top 53), defBody (top 53), defScope (top 53), [], []⟩, ["row", "many", "own"], ["row"], some b41, false⟩
def d42 : Dat := ⟨⟨("poly_value", none), "poly_value", "poly_value", defArgs (top 54), defBody (top 54), defScope (top 54), [], []⟩, ["poly", "length", "found", "own"], ["poly", "length"], some b42, false⟩
def d43 : Dat := ⟨⟨("poly_added", none), "poly_added", "poly_added", defArgs (top 55), defBody (top 55), defScope (top 55), [], []⟩, ["one", "other", "many", "near", "far", "mine", "its"], ["one", "other"], some b43, false⟩
def d44 : Dat := ⟨⟨("poly_times", none), "poly_times", "poly_times", defArgs (top 56), defBody (top 56), defScope (top 56), [], []⟩, ["poly", "own", "part"], ["poly", "own"], some b44, false⟩
def d45 : Dat := ⟨⟨("choose", none), "choose", "choose", defArgs (top 57), defBody (top 57), defScope (top 57), [], []⟩, ["many", "some", "found", "place"], ["many", "some"], some b45, false⟩
def d46 : Dat := ⟨⟨("poly_moved", none), "poly_moved", "poly_moved", defArgs (top 58), defBody (top 58), defScope (top 58), [], []⟩, ["poly", "step", "found", "place", "here", "later"], ["poly", "step"], some b46, false⟩
def d47 : Dat := ⟨⟨("poly_settled", none), "poly_settled", "poly_settled", defArgs (top 59), defBody (top 59), defScope (top 59), [], []⟩, ["poly", "share", "found", "place", "here", "later"], ["poly", "share"], some b47, false⟩
def d48 : Dat := ⟨⟨("poly_summed", none), "poly_summed", "poly_summed", defArgs (top 60), defBody (top 60), defScope (top 60), [], []⟩, ["poly", "found", "place", "here", "later"], ["poly"], some b48, false⟩
def d49 : Dat := ⟨⟨("sure_count", none), "sure_count", "sure_count", defArgs (top 64), defBody (top 64), defScope (top 64), [], []⟩, ["number", "most"], ["number", "most"], some b49, false⟩
def d50 : Dat := ⟨⟨("parts_value", none), "parts_value", "parts_value", defArgs (top 65), defBody (top 65), defScope (top 65), [], []⟩, ["parts", "length", "found", "base", "poly", "here"], ["parts", "length"], some b50, false⟩
def d51 : Dat := ⟨⟨("value_in", none), "value_in", "value_in", defArgs (top 66), defBody (top 66), defScope (top 66), [], []⟩, ["own", "length"], ["own", "length"], some b51, false⟩
def d52 : Dat := ⟨⟨("in_order", none), "in_order", "in_order", defArgs (top 67), defBody (top 67), defScope (top 67), [], []⟩, ["bases", "found", "base", "place", "own"], ["bases"], some b52, false⟩
def d53 : Dat := ⟨⟨("made_short", none), "made_short", "made_short", defArgs (top 68), defBody (top 68), defScope (top 68), [], []⟩, ["firsts", "polys", "parts", "many", "place", "base"], ["firsts", "polys"], some b53, false⟩
def d54 : Dat := ⟨⟨("added_in", none), "added_in", "added_in", defArgs (top 69), defBody (top 69), defScope (top 69), [], []⟩, ["one", "other", "many", "polys", "base", "poly", "place"], ["one", "other"], some b54, false⟩
def d55 : Dat := ⟨⟨("times_in", none), "times_in", "times_in", defArgs (top 70), defBody (top 70), defScope (top 70), [], []⟩, ["own", "fraction", "firsts", "first", "base", "poly"], ["own", "fraction"], some b55, false⟩
def d56 : Dat := ⟨⟨("less_in", none), "less_in", "less_in", defArgs (top 71), defBody (top 71), defScope (top 71), [], []⟩, ["one", "other"], ["one", "other"], some b56, false⟩
def d57 : Dat := ⟨⟨("behind_in", none), "behind_in", "behind_in", defArgs (top 72), defBody (top 72), defScope (top 72), [], []⟩, ["own", "first", "polys", "base", "poly"], ["own", "first"], some b57, false⟩
def d58 : Dat := ⟨⟨("folded_in", none), "folded_in", "folded_in", defArgs (top 73), defBody (top 73), defScope (top 73), [], []⟩, ["own", "base", "polys", "values", "here", "place", "other", "poly", "rest"], ["own", "base"], some b58, false⟩
def d59 : Dat := ⟨⟨("leading_in", none), "leading_in", "leading_in", defArgs (top 74), defBody (top 74), defScope (top 74), [], []⟩, ["own", "base", "poly"], ["own"], some b59, false⟩
def d60 : Dat := ⟨⟨("shares_of", none), "shares_of", "shares_of", defArgs (top 75), defBody (top 75), defScope (top 75), [], []⟩, ["own", "lead", "degree", "most", "found", "base", "poly", "degree_so", "number", "size"], ["own"], some b60, false⟩
def d61 : Dat := ⟨⟨("are_small", none), "are_small", "are_small", defArgs (top 76), defBody (top 76), defScope (top 76), [], []⟩, ["shares", "length", "found", "base", "more", "size", "here"], ["shares", "length"], some b61, false⟩
def d62 : Dat := ⟨⟨("sign_in", none), "sign_in", "sign_in", defArgs (top 77), defBody (top 77), defScope (top 77), [], []⟩, ["own", "shares", "length", "sign"], ["own"], some b62, false⟩
def d63 : Dat := ⟨⟨("settled_from", none), "settled_from", "settled_from", defArgs (top 78), defBody (top 78), defScope (top 78), [], []⟩, ["own", "sign", "length", "found", "place"], ["own", "sign", "length"], some b63, false⟩
def d64 : Dat := ⟨⟨("Web", some "__init__"), "__init__", "Web.__init__", defArgs (mem 80 0), defBody (mem 80 0), defScope (mem 80 0), [], []⟩, ["self", "wide", "demand", "far", "line", "gap", "row", "_", "letter", "goal"], ["self", "wide", "demand"], some b64, false⟩
def d65 : Dat := ⟨⟨("Web", some "goals"), "goals", "Web.goals", defArgs (mem 80 1), defBody (mem 80 1), defScope (mem 80 1), [], []⟩, ["self", "gap", "letter", "goal"], ["self", "gap", "letter"], some b65, false⟩
def d66 : Dat := ⟨⟨("Web", some "after"), "after", "Web.after", defArgs (mem 80 2), defBody (mem 80 2), defScope (mem 80 2), [], []⟩, ["self", "some", "letter"], ["self", "some", "letter"], some b66, false⟩
def d67 : Dat := ⟨⟨("Web", some "ways"), "ways", "Web.ways", defArgs (mem 80 3), defBody (mem 80 3), defScope (mem 80 3), [], []⟩, ["self", "most", "rows", "_", "row", "gap", "here", "goal"], ["self", "most"], some b67, false⟩
def d68 : Dat := ⟨⟨("weight_of", none), "weight_of", "weight_of", defArgs (top 83), defBody (top 83), defScope (top 83), [], []⟩, ["letters", "weights", "letter"], ["letters", "weights"], some b68, false⟩
def d69 : Dat := ⟨⟨("step_sum", none), "step_sum", "step_sum", defArgs (top 84), defBody (top 84), defScope (top 84), [], []⟩, ["own", "weight"], ["own", "weight"], some b69, false⟩
def d70 : Dat := ⟨⟨("stay_sum", none), "stay_sum", "stay_sum", defArgs (top 85), defBody (top 85), defScope (top 85), [], []⟩, ["own", "weight"], ["own", "weight"], some b70, false⟩
def d71 : Dat := ⟨⟨("web_sums", none), "web_sums", "web_sums", defArgs (top 86), defBody (top 86), defScope (top 86), [], []⟩, ["web", "weights", "found", "gap", "here", "letter", "goal"], ["web", "weights"], some b71, false⟩
def d72 : Dat := ⟨⟨("weighed", none), "weighed", "weighed", defArgs (top 87), defBody (top 87), defScope (top 87), [], []⟩, ["wide", "demand", "weights", "web", "rows", "found", "gap"], ["wide", "demand", "weights"], some b72, true⟩
def d73 : Dat := ⟨⟨("end_of_both", none), "end_of_both", "end_of_both", defArgs (top 89), defBody (top 89), defScope (top 89), [], []⟩, ["one", "other"], ["one", "other"], some b73, false⟩
def d74 : Dat := ⟨⟨("both_demands", none), "both_demands", "both_demands", defArgs (top 90), defBody (top 90), defScope (top 90), [], []⟩, ["one", "other"], ["one", "other"], some b74, false⟩
def d75 : Dat := ⟨⟨("limit_share", none), "limit_share", "limit_share", defArgs (top 91), defBody (top 91), defScope (top 91), [], []⟩, ["one", "other", "near", "far"], ["one", "other"], some b75, false⟩
def d76 : Dat := ⟨⟨("is_chances_form", none), "is_chances_form", "is_chances_form", defArgs (top 96), defBody (top 96), defScope (top 96), [], []⟩, ["wide", "thing", "own"], ["wide", "thing"], some b76, false⟩
def d77 : Dat := ⟨⟨("is_chances", none), "is_chances", "is_chances", defArgs (top 97), defBody (top 97), defScope (top 97), [], []⟩, ["wide", "thing"], ["wide", "thing"], some b77, false⟩
def d78 : Dat := ⟨⟨("sure_chances", none), "sure_chances", "sure_chances", defArgs (top 98), defBody (top 98), defScope (top 98), [], []⟩, ["wide", "chances", "own"], ["wide", "chances"], some b78, false⟩
def d79 : Dat := ⟨⟨("text_chance", none), "text_chance", "text_chance", defArgs (top 99), defBody (top 99), defScope (top 99), [], []⟩, ["wide", "chances", "text", "own", "found", "letter"], ["wide", "chances", "text"], some b79, false⟩
def d80 : Dat := ⟨⟨("chance_in", none), "chance_in", "chance_in", defArgs (top 100), defBody (top 100), defScope (top 100), [], []⟩, ["wide", "chances", "demand", "told"], ["wide", "chances", "demand"], some b80, false⟩
def d81 : Dat := ⟨⟨("limit_in", none), "limit_in", "limit_in", defArgs (top 101), defBody (top 101), defScope (top 101), [], []⟩, ["own", "found", "base", "poly"], ["own"], some b81, false⟩
def d82 : Dat := ⟨⟨("chance_sum", none), "chance_sum", "chance_sum", defArgs (top 102), defBody (top 102), defScope (top 102), [], []⟩, ["wide", "chances", "demand"], ["wide", "chances", "demand"], some b82, false⟩
def d83 : Dat := ⟨⟨("chance_at", none), "chance_at", "chance_at", defArgs (top 103), defBody (top 103), defScope (top 103), [], []⟩, ["wide", "chances", "demand", "length"], ["wide", "chances", "demand", "length"], some b83, false⟩
def d84 : Dat := ⟨⟨("limit_chance", none), "limit_chance", "limit_chance", defArgs (top 104), defBody (top 104), defScope (top 104), [], []⟩, ["wide", "chances", "demand"], ["wide", "chances", "demand"], some b84, false⟩
def d85 : Dat := ⟨⟨("chance_given", none), "chance_given", "chance_given", defArgs (top 105), defBody (top 105), defScope (top 105), [], []⟩, ["wide", "chances", "one", "other", "told", "near", "far", "whole", "part"], ["wide", "chances", "one", "other"], some b85, false⟩
def d86 : Dat := ⟨⟨("reaches", none), "reaches", "reaches", defArgs (top 106), defBody (top 106), defScope (top 106), [], []⟩, ["wide", "chances", "demand", "fraction", "own", "told", "whole"], ["wide", "chances", "demand", "fraction"], some b86, false⟩
def d87 : Dat := ⟨⟨("chance_in_form", none), "chance_in_form", "chance_in_form", defArgs (top 107), defBody (top 107), defScope (top 107), [], []⟩, ["wide", "chances", "demand"], ["wide", "chances", "demand"], some b87, false⟩
def d88 : Dat := ⟨⟨("_law_box", none), "_law_box", "_law_box", defArgs (top 109), defBody (top 109), defScope (top 109), [], []⟩, ["script", "k", "cell"], ["script", "k"], some b88, false⟩
def d89 : Dat := ⟨⟨("_law_take", none), "_law_take", "_law_take", defArgs (top 110), defBody (top 110), defScope (top 110), [], []⟩, ["tin", "below", "drawn", "once", "broad", "twice"], ["tin", "below"], some b89, false⟩
def d90 : Dat := ⟨⟨("_law_cells", none), "_law_cells", "_law_cells", defArgs (top 111), defBody (top 111), defScope (top 111), [], []⟩, ["script", "most", "cells", "k", "cell", "spot"], ["script", "most"], some b90, false⟩
def d91 : Dat := ⟨⟨("_law_same", none), "_law_same", "_law_same", defArgs (top 112), defBody (top 112), defScope (top 112), [], []⟩, ["got", "goal", "mine", "own"], ["got", "goal"], some b91, false⟩
def d92 : Dat := ⟨⟨("_law_lists", none), "_law_lists", "_law_lists", defArgs (top 113), defBody (top 113), defScope (top 113), [], []⟩, ["matter", "own"], ["matter"], some b92, false⟩
def d93 : Dat := ⟨⟨("_law_of", none), "_law_of", "_law_of", defArgs (top 114), defBody (top 114), defScope (top 114), [], []⟩, ["tin", "goods"], ["tin", "goods"], some b93, false⟩
def d94 : Dat := ⟨⟨("_law_gcd", none), "_law_gcd", "_law_gcd", defArgs (top 115), defBody (top 115), defScope (top 115), [], []⟩, ["one", "other"], ["one", "other"], some b94, false⟩
def d95 : Dat := ⟨⟨("_law_frac", none), "_law_frac", "_law_frac", defArgs (top 116), defBody (top 116), defScope (top 116), [], []⟩, ["top", "under", "most"], ["top", "under"], some b95, false⟩
def d96 : Dat := ⟨⟨("_law_raised", none), "_law_raised", "_law_raised", defArgs (top 117), defBody (top 117), defScope (top 117), [], []⟩, ["own", "many", "found", "lap"], ["own", "many"], some b96, false⟩
def d97 : Dat := ⟨⟨("_law_try", none), "_law_try", "_law_try", defArgs (top 118), defBody (top 118), defScope (top 118), [], []⟩, ["door", "wide", "chances", "one", "other"], ["door", "wide", "chances", "one", "other"], some b97, false⟩
def d98 : Dat := ⟨⟨("law", none), "law", "law", defArgs (top 119), defBody (top 119), defScope (top 119), [], []⟩, ["script", "tin", "n", "one", "even", "odd", "three", "some", "none", "every", "never", "last", "lone", "top", "bottom", "got", "due", "many", "lap", "bad", "k"], ["script"], some b98, false⟩
def dats : List Dat := [d0, d1, d2, d3, d4, d5, d6, d7, d8, d9, d10, d11, d12, d13, d14, d15, d16, d17, d18, d19, d20, d21, d22, d23, d24, d25, d26, d27, d28, d29, d30, d31, d32, d33, d34, d35, d36, d37, d38, d39, d40, d41, d42, d43, d44, d45, d46, d47, d48, d49, d50, d51, d52, d53, d54, d55, d56, d57, d58, d59, d60, d61, d62, d63, d64, d65, d66, d67, d68, d69, d70, d71, d72, d73, d74, d75, d76, d77, d78, d79, d80, d81, d82, d83, d84, d85, d86, d87, d88, d89, d90, d91, d92, d93, d94, d95, d96, d97, d98]
def fnsL_0 : List (Str × Nat × Nat) := [("_wall", 1, 0), ("is_number", 1, 1), ("tuple_of", 1, 2), ("is_tuple_of", 2, 3), ("is_letter_set", 2, 4), ("is_letter", 2, 5), ("is_text", 2, 6), ("sure_wide_of", 1, 7), ("sure_letters_of", 2, 8), ("divisor", 2, 9), ("ratio_of", 2, 10), ("is_fraction", 1, 11), ("plus", 2, 12), ("less", 2, 13), ("times", 2, 14), ("over", 2, 15), ("is_below", 2, 16), ("power", 2, 17), ("raised", 2, 18), ("summed", 1, 19)]
def fnsL_1 : List (Str × Nat × Nat) := [("sign_of", 1, 20), ("is_small", 2, 21), ("parts_of_mood", 2, 22), ("is_mood", 2, 23), ("inner_moods", 1, 24), ("mood_size_in", 1, 25), ("watched_in", 1, 26), ("joined", 2, 33), ("subsets", 1, 34), ("is_demand", 2, 35), ("sure_demand", 2, 36), ("trimmed", 1, 41), ("poly_value", 2, 42), ("poly_added", 2, 43), ("poly_times", 2, 44), ("choose", 2, 45), ("poly_moved", 2, 46), ("poly_settled", 2, 47), ("poly_summed", 1, 48), ("sure_count", 2, 49)]
def fnsL_2 : List (Str × Nat × Nat) := [("parts_value", 2, 50), ("value_in", 2, 51), ("in_order", 1, 52), ("made_short", 2, 53), ("added_in", 2, 54), ("times_in", 2, 55), ("less_in", 2, 56), ("behind_in", 2, 57), ("folded_in", 2, 58), ("leading_in", 1, 59), ("shares_of", 1, 60), ("are_small", 2, 61), ("sign_in", 1, 62), ("settled_from", 3, 63), ("weight_of", 2, 68), ("step_sum", 2, 69), ("stay_sum", 2, 70), ("web_sums", 2, 71), ("weighed", 3, 72), ("end_of_both", 2, 73)]
def fnsL_3 : List (Str × Nat × Nat) := [("both_demands", 2, 74), ("limit_share", 2, 75), ("is_chances_form", 2, 76), ("is_chances", 2, 77), ("sure_chances", 2, 78), ("text_chance", 3, 79), ("chance_in", 3, 80), ("limit_in", 1, 81), ("chance_sum", 3, 82), ("chance_at", 4, 83), ("limit_chance", 3, 84), ("chance_given", 4, 85), ("reaches", 4, 86), ("chance_in_form", 3, 87), ("_law_box", 2, 88), ("_law_take", 2, 89), ("_law_cells", 2, 90), ("_law_same", 2, 91), ("_law_lists", 1, 92), ("_law_of", 2, 93)]
def fnsL_4 : List (Str × Nat × Nat) := [("_law_gcd", 2, 94), ("_law_frac", 2, 95), ("_law_raised", 2, 96), ("_law_try", 5, 97), ("law", 1, 98)]
def mtsL_0 : List (Str × Nat × List (Nat × Nat)) := [("told", 5, [(0, 28)]), ("hits", 5, [(0, 29)]), ("steps", 3, [(0, 30)]), ("starts", 2, [(0, 31)]), ("ends", 3, [(0, 32)]), ("far", 1, [(1, 38)]), ("least", 1, [(1, 39)]), ("on", 4, [(1, 40)]), ("goals", 3, [(2, 65)]), ("after", 3, [(2, 66)]), ("ways", 2, [(2, 67)])]
def T : Top where
  dats := dats
  cls := ["Stands", "Going", "Web"]
  excs := ["CanNot", "TooMuch", "Unfit"]
  attrs := ["watched", "wide", "demand", "stands", "starts", "rows", "going", "gaps", "ends", "stays", "onward"]
  fos := foL
  cons := [("YES", c_YES), ("MOST_WIDE", c_MOST_WIDE), ("NOUGHT", c_NOUGHT), ("WHOLE", c_WHOLE), ("LATER", c_LATER), ("AHEAD", c_AHEAD), ("MOST_WATCHED", c_MOST_WATCHED), ("MOST_GAPS", c_MOST_GAPS), ("MOST_FROM", c_MOST_FROM), ("NO_SUM", c_NO_SUM), ("ONCE", c_ONCE), ("MOST_CHANCE", c_MOST_CHANCE), ("MOST_DRAWN", c_MOST_DRAWN), ("MOST_SHARE", c_MOST_SHARE)]
  fns := fnsL_0 ++ fnsL_1 ++ fnsL_2 ++ fnsL_3 ++ fnsL_4
  mks := [("Stands", 0, 2, 27), ("Going", 1, 3, 37), ("Web", 2, 3, 64)]
  mts := mtsL_0
def tabN (tab : Tab) : Tab := ⟨⟨⟨fnI [s0] (sSeq (b0 tab)), fnI [s0] (sSeq (b1 tab)), fnI [s0] (sSeq (b2 tab)), fnI [s0, s1] (sSeq (b3 tab)), fnI [s0, s1] (sSeq (b4 tab)), fnI [s0, s1] (sSeq (b5 tab)), fnI [s0, s1] (sSeq (b6 tab))⟩,
    ⟨fnI [s0] (sSeq (b7 tab)), fnI [s0, s1] (sSeq (b8 tab)), fnI [s0, s1] (sSeq (b9 tab)), fnI [s0, s1] (sSeq (b10 tab)), fnI [s0] (sSeq (b11 tab)), fnI [s0, s1] (sSeq (b12 tab)), fnI [s0, s1] (sSeq (b13 tab))⟩,
    ⟨fnI [s0, s1] (sSeq (b14 tab)), fnI [s0, s1] (sSeq (b15 tab)), fnI [s0, s1] (sSeq (b16 tab)), fnI [s0, s1] (sSeq (b17 tab)), fnI [s0, s1] (sSeq (b18 tab)), fnI [s0] (sSeq (b19 tab)), fnI [s0] (sSeq (b20 tab))⟩,
    ⟨fnI [s0, s1] (sSeq (b21 tab)), fnI [s0, s1] (sSeq (b22 tab)), fnI [s0, s1] (sSeq (b23 tab)), fnI [s0] (sSeq (b24 tab)), fnI [s0] (sSeq (b25 tab)), fnI [s0] (sSeq (b26 tab)), fnI [s0, s1] (sSeq (b27 tab))⟩,
    ⟨fnI [s0, s1, s2, s3, s4] (sSeq (b28 tab)), fnI [s0, s1, s2, s3, s4] (sSeq (b29 tab)), fnI [s0, s1, s2] (sSeq (b30 tab)), fnI [s0, s1] (sSeq (b31 tab)), fnI [s0, s1, s2] (sSeq (b32 tab)), fnI [s0, s1] (sSeq (b33 tab)), fnI [s0] (sSeq (b34 tab))⟩,
    ⟨fnI [s0, s1] (sSeq (b35 tab)), fnI [s0, s1] (sSeq (b36 tab)), fnI [s0, s1, s2] (sSeq (b37 tab)), fnI [s0] (sSeq (b38 tab)), fnI [s0] (sSeq (b39 tab)), fnI [s0, s1, s2, s3] (sSeq (b40 tab)), fnI [s0] (sSeq (b41 tab))⟩,
    ⟨fnI [s0, s1] (sSeq (b42 tab)), fnI [s0, s1] (sSeq (b43 tab)), fnI [s0, s1] (sSeq (b44 tab)), fnI [s0, s1] (sSeq (b45 tab)), fnI [s0, s1] (sSeq (b46 tab)), fnI [s0, s1] (sSeq (b47 tab)), fnI [s0] (sSeq (b48 tab))⟩⟩,
  ⟨⟨fnI [s0, s1] (sSeq (b49 tab)), fnI [s0, s1] (sSeq (b50 tab)), fnI [s0, s1] (sSeq (b51 tab)), fnI [s0] (sSeq (b52 tab)), fnI [s0, s1] (sSeq (b53 tab)), fnI [s0, s1] (sSeq (b54 tab)), fnI [s0, s1] (sSeq (b55 tab))⟩,
    ⟨fnI [s0, s1] (sSeq (b56 tab)), fnI [s0, s1] (sSeq (b57 tab)), fnI [s0, s1] (sSeq (b58 tab)), fnI [s0] (sSeq (b59 tab)), fnI [s0] (sSeq (b60 tab)), fnI [s0, s1] (sSeq (b61 tab)), fnI [s0] (sSeq (b62 tab))⟩,
    ⟨fnI [s0, s1, s2] (sSeq (b63 tab)), fnI [s0, s1, s2] (sSeq (b64 tab)), fnI [s0, s1, s2] (sSeq (b65 tab)), fnI [s0, s1, s2] (sSeq (b66 tab)), fnI [s0, s1] (sSeq (b67 tab)), fnI [s0, s1] (sSeq (b68 tab)), fnI [s0, s1] (sSeq (b69 tab))⟩,
    ⟨fnI [s0, s1] (sSeq (b70 tab)), fnI [s0, s1] (sSeq (b71 tab)), fnP [s0, s1, s2] (sSeq (b72 tab)), fnI [s0, s1] (sSeq (b73 tab)), fnI [s0, s1] (sSeq (b74 tab)), fnI [s0, s1] (sSeq (b75 tab)), fnI [s0, s1] (sSeq (b76 tab))⟩,
    ⟨fnI [s0, s1] (sSeq (b77 tab)), fnI [s0, s1] (sSeq (b78 tab)), fnI [s0, s1, s2] (sSeq (b79 tab)), fnI [s0, s1, s2] (sSeq (b80 tab)), fnI [s0] (sSeq (b81 tab)), fnI [s0, s1, s2] (sSeq (b82 tab)), fnI [s0, s1, s2, s3] (sSeq (b83 tab))⟩,
    ⟨fnI [s0, s1, s2] (sSeq (b84 tab)), fnI [s0, s1, s2, s3] (sSeq (b85 tab)), fnI [s0, s1, s2, s3] (sSeq (b86 tab)), fnI [s0, s1, s2] (sSeq (b87 tab)), fnI [s0, s1] (sSeq (b88 tab)), fnI [s0, s1] (sSeq (b89 tab)), fnI [s0, s1] (sSeq (b90 tab))⟩,
    ⟨fnI [s0, s1] (sSeq (b91 tab)), fnI [s0] (sSeq (b92 tab)), fnI [s0, s1] (sSeq (b93 tab)), fnI [s0, s1] (sSeq (b94 tab)), fnI [s0, s1] (sSeq (b95 tab)), fnI [s0, s1] (sSeq (b96 tab)), fnI [s0, s1, s2, s3, s4] (sSeq (b97 tab))⟩⟩,
  ⟨⟨fnI [s0] (sSeq (b98 tab)), fnBad, fnBad, fnBad, fnBad, fnBad, fnBad⟩,
    rep7 fnBad,
    rep7 fnBad,
    rep7 fnBad,
    rep7 fnBad,
    rep7 fnBad,
    rep7 fnBad⟩,
  rep7 (rep7 fnBad),
  rep7 (rep7 fnBad),
  rep7 (rep7 fnBad),
  rep7 (rep7 fnBad)⟩
theorem tab_at (tab : Tab) : TabAt T tab (tabN tab) := by
  unfold TabAt
  kernel_rfl
theorem r0 (tab : Tab) : Reads T tab d0 (b0 tab) := by
  unfold Reads
  kernel_rfl
theorem r1 (tab : Tab) : Reads T tab d1 (b1 tab) := by
  unfold Reads
  kernel_rfl
theorem r2 (tab : Tab) : Reads T tab d2 (b2 tab) := by
  unfold Reads
  kernel_rfl
theorem r3 (tab : Tab) : Reads T tab d3 (b3 tab) := by
  unfold Reads
  kernel_rfl
theorem r4 (tab : Tab) : Reads T tab d4 (b4 tab) := by
  unfold Reads
  kernel_rfl
theorem r5 (tab : Tab) : Reads T tab d5 (b5 tab) := by
  unfold Reads
  kernel_rfl
theorem r6 (tab : Tab) : Reads T tab d6 (b6 tab) := by
  unfold Reads
  kernel_rfl
theorem r7 (tab : Tab) : Reads T tab d7 (b7 tab) := by
  unfold Reads
  kernel_rfl
theorem r8 (tab : Tab) : Reads T tab d8 (b8 tab) := by
  unfold Reads
  kernel_rfl
theorem r9 (tab : Tab) : Reads T tab d9 (b9 tab) := by
  unfold Reads
  kernel_rfl
theorem r10 (tab : Tab) : Reads T tab d10 (b10 tab) := by
  unfold Reads
  kernel_rfl
theorem r11 (tab : Tab) : Reads T tab d11 (b11 tab) := by
  unfold Reads
  kernel_rfl
theorem r12 (tab : Tab) : Reads T tab d12 (b12 tab) := by
  unfold Reads
  kernel_rfl
theorem r13 (tab : Tab) : Reads T tab d13 (b13 tab) := by
  unfold Reads
  kernel_rfl
theorem r14 (tab : Tab) : Reads T tab d14 (b14 tab) := by
  unfold Reads
  kernel_rfl
theorem r15 (tab : Tab) : Reads T tab d15 (b15 tab) := by
  unfold Reads
  kernel_rfl
theorem r16 (tab : Tab) : Reads T tab d16 (b16 tab) := by
  unfold Reads
  kernel_rfl
theorem r17 (tab : Tab) : Reads T tab d17 (b17 tab) := by
  unfold Reads
  kernel_rfl
theorem r18 (tab : Tab) : Reads T tab d18 (b18 tab) := by
  unfold Reads
  kernel_rfl
theorem r19 (tab : Tab) : Reads T tab d19 (b19 tab) := by
  unfold Reads
  kernel_rfl
theorem r20 (tab : Tab) : Reads T tab d20 (b20 tab) := by
  unfold Reads
  kernel_rfl
theorem r21 (tab : Tab) : Reads T tab d21 (b21 tab) := by
  unfold Reads
  kernel_rfl
theorem r22 (tab : Tab) : Reads T tab d22 (b22 tab) := by
  unfold Reads
  kernel_rfl
theorem r23 (tab : Tab) : Reads T tab d23 (b23 tab) := by
  unfold Reads
  kernel_rfl
theorem r24 (tab : Tab) : Reads T tab d24 (b24 tab) := by
  unfold Reads
  kernel_rfl
theorem r25 (tab : Tab) : Reads T tab d25 (b25 tab) := by
  unfold Reads
  kernel_rfl
theorem r26 (tab : Tab) : Reads T tab d26 (b26 tab) := by
  unfold Reads
  kernel_rfl
theorem r27 (tab : Tab) : Reads T tab d27 (b27 tab) := by
  unfold Reads
  kernel_rfl
theorem r28 (tab : Tab) : Reads T tab d28 (b28 tab) := by
  unfold Reads
  kernel_rfl
theorem r29 (tab : Tab) : Reads T tab d29 (b29 tab) := by
  unfold Reads
  kernel_rfl
theorem r30 (tab : Tab) : Reads T tab d30 (b30 tab) := by
  unfold Reads
  kernel_rfl
theorem r31 (tab : Tab) : Reads T tab d31 (b31 tab) := by
  unfold Reads
  kernel_rfl
theorem r32 (tab : Tab) : Reads T tab d32 (b32 tab) := by
  unfold Reads
  kernel_rfl
theorem r33 (tab : Tab) : Reads T tab d33 (b33 tab) := by
  unfold Reads
  kernel_rfl
theorem r34 (tab : Tab) : Reads T tab d34 (b34 tab) := by
  unfold Reads
  kernel_rfl
theorem r35 (tab : Tab) : Reads T tab d35 (b35 tab) := by
  unfold Reads
  kernel_rfl
theorem r36 (tab : Tab) : Reads T tab d36 (b36 tab) := by
  unfold Reads
  kernel_rfl
theorem r37 (tab : Tab) : Reads T tab d37 (b37 tab) := by
  unfold Reads
  kernel_rfl
theorem r38 (tab : Tab) : Reads T tab d38 (b38 tab) := by
  unfold Reads
  kernel_rfl
theorem r39 (tab : Tab) : Reads T tab d39 (b39 tab) := by
  unfold Reads
  kernel_rfl
theorem r40 (tab : Tab) : Reads T tab d40 (b40 tab) := by
  unfold Reads
  kernel_rfl
theorem r41 (tab : Tab) : Reads T tab d41 (b41 tab) := by
  unfold Reads
  kernel_rfl
theorem r42 (tab : Tab) : Reads T tab d42 (b42 tab) := by
  unfold Reads
  kernel_rfl
theorem r43 (tab : Tab) : Reads T tab d43 (b43 tab) := by
  unfold Reads
  kernel_rfl
theorem r44 (tab : Tab) : Reads T tab d44 (b44 tab) := by
  unfold Reads
  kernel_rfl
theorem r45 (tab : Tab) : Reads T tab d45 (b45 tab) := by
  unfold Reads
  kernel_rfl
theorem r46 (tab : Tab) : Reads T tab d46 (b46 tab) := by
  unfold Reads
  kernel_rfl
theorem r47 (tab : Tab) : Reads T tab d47 (b47 tab) := by
  unfold Reads
  kernel_rfl
theorem r48 (tab : Tab) : Reads T tab d48 (b48 tab) := by
  unfold Reads
  kernel_rfl
theorem r49 (tab : Tab) : Reads T tab d49 (b49 tab) := by
  unfold Reads
  kernel_rfl
theorem r50 (tab : Tab) : Reads T tab d50 (b50 tab) := by
  unfold Reads
  kernel_rfl
theorem r51 (tab : Tab) : Reads T tab d51 (b51 tab) := by
  unfold Reads
  kernel_rfl
theorem r52 (tab : Tab) : Reads T tab d52 (b52 tab) := by
  unfold Reads
  kernel_rfl
theorem r53 (tab : Tab) : Reads T tab d53 (b53 tab) := by
  unfold Reads
  kernel_rfl
theorem r54 (tab : Tab) : Reads T tab d54 (b54 tab) := by
  unfold Reads
  kernel_rfl
theorem r55 (tab : Tab) : Reads T tab d55 (b55 tab) := by
  unfold Reads
  kernel_rfl
theorem r56 (tab : Tab) : Reads T tab d56 (b56 tab) := by
  unfold Reads
  kernel_rfl
theorem r57 (tab : Tab) : Reads T tab d57 (b57 tab) := by
  unfold Reads
  kernel_rfl
theorem r58 (tab : Tab) : Reads T tab d58 (b58 tab) := by
  unfold Reads
  kernel_rfl
theorem r59 (tab : Tab) : Reads T tab d59 (b59 tab) := by
  unfold Reads
  kernel_rfl
theorem r60 (tab : Tab) : Reads T tab d60 (b60 tab) := by
  unfold Reads
  kernel_rfl
theorem r61 (tab : Tab) : Reads T tab d61 (b61 tab) := by
  unfold Reads
  kernel_rfl
theorem r62 (tab : Tab) : Reads T tab d62 (b62 tab) := by
  unfold Reads
  kernel_rfl
theorem r63 (tab : Tab) : Reads T tab d63 (b63 tab) := by
  unfold Reads
  kernel_rfl
theorem r64 (tab : Tab) : Reads T tab d64 (b64 tab) := by
  unfold Reads
  kernel_rfl
theorem r65 (tab : Tab) : Reads T tab d65 (b65 tab) := by
  unfold Reads
  kernel_rfl
theorem r66 (tab : Tab) : Reads T tab d66 (b66 tab) := by
  unfold Reads
  kernel_rfl
theorem r67 (tab : Tab) : Reads T tab d67 (b67 tab) := by
  unfold Reads
  kernel_rfl
theorem r68 (tab : Tab) : Reads T tab d68 (b68 tab) := by
  unfold Reads
  kernel_rfl
theorem r69 (tab : Tab) : Reads T tab d69 (b69 tab) := by
  unfold Reads
  kernel_rfl
theorem r70 (tab : Tab) : Reads T tab d70 (b70 tab) := by
  unfold Reads
  kernel_rfl
theorem r71 (tab : Tab) : Reads T tab d71 (b71 tab) := by
  unfold Reads
  kernel_rfl
theorem r72 (tab : Tab) : Reads T tab d72 (b72 tab) := by
  unfold Reads
  kernel_rfl
theorem r73 (tab : Tab) : Reads T tab d73 (b73 tab) := by
  unfold Reads
  kernel_rfl
theorem r74 (tab : Tab) : Reads T tab d74 (b74 tab) := by
  unfold Reads
  kernel_rfl
theorem r75 (tab : Tab) : Reads T tab d75 (b75 tab) := by
  unfold Reads
  kernel_rfl
theorem r76 (tab : Tab) : Reads T tab d76 (b76 tab) := by
  unfold Reads
  kernel_rfl
theorem r77 (tab : Tab) : Reads T tab d77 (b77 tab) := by
  unfold Reads
  kernel_rfl
theorem r78 (tab : Tab) : Reads T tab d78 (b78 tab) := by
  unfold Reads
  kernel_rfl
theorem r79 (tab : Tab) : Reads T tab d79 (b79 tab) := by
  unfold Reads
  kernel_rfl
theorem r80 (tab : Tab) : Reads T tab d80 (b80 tab) := by
  unfold Reads
  kernel_rfl
theorem r81 (tab : Tab) : Reads T tab d81 (b81 tab) := by
  unfold Reads
  kernel_rfl
theorem r82 (tab : Tab) : Reads T tab d82 (b82 tab) := by
  unfold Reads
  kernel_rfl
theorem r83 (tab : Tab) : Reads T tab d83 (b83 tab) := by
  unfold Reads
  kernel_rfl
theorem r84 (tab : Tab) : Reads T tab d84 (b84 tab) := by
  unfold Reads
  kernel_rfl
theorem r85 (tab : Tab) : Reads T tab d85 (b85 tab) := by
  unfold Reads
  kernel_rfl
theorem r86 (tab : Tab) : Reads T tab d86 (b86 tab) := by
  unfold Reads
  kernel_rfl
theorem r87 (tab : Tab) : Reads T tab d87 (b87 tab) := by
  unfold Reads
  kernel_rfl
theorem r88 (tab : Tab) : Reads T tab d88 (b88 tab) := by
  unfold Reads
  kernel_rfl
theorem r89 (tab : Tab) : Reads T tab d89 (b89 tab) := by
  unfold Reads
  kernel_rfl
theorem r90 (tab : Tab) : Reads T tab d90 (b90 tab) := by
  unfold Reads
  kernel_rfl
theorem r91 (tab : Tab) : Reads T tab d91 (b91 tab) := by
  unfold Reads
  kernel_rfl
theorem r92 (tab : Tab) : Reads T tab d92 (b92 tab) := by
  unfold Reads
  kernel_rfl
theorem r93 (tab : Tab) : Reads T tab d93 (b93 tab) := by
  unfold Reads
  kernel_rfl
theorem r94 (tab : Tab) : Reads T tab d94 (b94 tab) := by
  unfold Reads
  kernel_rfl
theorem r95 (tab : Tab) : Reads T tab d95 (b95 tab) := by
  unfold Reads
  kernel_rfl
theorem r96 (tab : Tab) : Reads T tab d96 (b96 tab) := by
  unfold Reads
  kernel_rfl
theorem r97 (tab : Tab) : Reads T tab d97 (b97 tab) := by
  unfold Reads
  kernel_rfl
theorem r98 (tab : Tab) : Reads T tab d98 (b98 tab) := by
  unfold Reads
  kernel_rfl
theorem n0 : BindsD d0 := fun _ _ _ _ _ _ us hl => match us, hl with | [_], _ => rfl
theorem n1 : BindsD d1 := fun _ _ _ _ _ _ us hl => match us, hl with | [_], _ => rfl
theorem n2 : BindsD d2 := fun _ _ _ _ _ _ us hl => match us, hl with | [_], _ => rfl
theorem n3 : BindsD d3 := fun _ _ _ _ _ _ us hl => match us, hl with | [_, _], _ => rfl
theorem n4 : BindsD d4 := fun _ _ _ _ _ _ us hl => match us, hl with | [_, _], _ => rfl
theorem n5 : BindsD d5 := fun _ _ _ _ _ _ us hl => match us, hl with | [_, _], _ => rfl
theorem n6 : BindsD d6 := fun _ _ _ _ _ _ us hl => match us, hl with | [_, _], _ => rfl
theorem n7 : BindsD d7 := fun _ _ _ _ _ _ us hl => match us, hl with | [_], _ => rfl
theorem n8 : BindsD d8 := fun _ _ _ _ _ _ us hl => match us, hl with | [_, _], _ => rfl
theorem n9 : BindsD d9 := fun _ _ _ _ _ _ us hl => match us, hl with | [_, _], _ => rfl
theorem n10 : BindsD d10 := fun _ _ _ _ _ _ us hl => match us, hl with | [_, _], _ => rfl
theorem n11 : BindsD d11 := fun _ _ _ _ _ _ us hl => match us, hl with | [_], _ => rfl
theorem n12 : BindsD d12 := fun _ _ _ _ _ _ us hl => match us, hl with | [_, _], _ => rfl
theorem n13 : BindsD d13 := fun _ _ _ _ _ _ us hl => match us, hl with | [_, _], _ => rfl
theorem n14 : BindsD d14 := fun _ _ _ _ _ _ us hl => match us, hl with | [_, _], _ => rfl
theorem n15 : BindsD d15 := fun _ _ _ _ _ _ us hl => match us, hl with | [_, _], _ => rfl
theorem n16 : BindsD d16 := fun _ _ _ _ _ _ us hl => match us, hl with | [_, _], _ => rfl
theorem n17 : BindsD d17 := fun _ _ _ _ _ _ us hl => match us, hl with | [_, _], _ => rfl
theorem n18 : BindsD d18 := fun _ _ _ _ _ _ us hl => match us, hl with | [_, _], _ => rfl
theorem n19 : BindsD d19 := fun _ _ _ _ _ _ us hl => match us, hl with | [_], _ => rfl
theorem n20 : BindsD d20 := fun _ _ _ _ _ _ us hl => match us, hl with | [_], _ => rfl
theorem n21 : BindsD d21 := fun _ _ _ _ _ _ us hl => match us, hl with | [_, _], _ => rfl
theorem n22 : BindsD d22 := fun _ _ _ _ _ _ us hl => match us, hl with | [_, _], _ => rfl
theorem n23 : BindsD d23 := fun _ _ _ _ _ _ us hl => match us, hl with | [_, _], _ => rfl
theorem n24 : BindsD d24 := fun _ _ _ _ _ _ us hl => match us, hl with | [_], _ => rfl
theorem n25 : BindsD d25 := fun _ _ _ _ _ _ us hl => match us, hl with | [_], _ => rfl
theorem n26 : BindsD d26 := fun _ _ _ _ _ _ us hl => match us, hl with | [_], _ => rfl
theorem n27 : BindsD d27 := fun _ _ _ _ _ _ us hl => match us, hl with | [_, _], _ => rfl
theorem n28 : BindsD d28 := fun _ _ _ _ _ _ us hl => match us, hl with | [_, _, _, _, _], _ => rfl
theorem n29 : BindsD d29 := fun _ _ _ _ _ _ us hl => match us, hl with | [_, _, _, _, _], _ => rfl
theorem n30 : BindsD d30 := fun _ _ _ _ _ _ us hl => match us, hl with | [_, _, _], _ => rfl
theorem n31 : BindsD d31 := fun _ _ _ _ _ _ us hl => match us, hl with | [_, _], _ => rfl
theorem n32 : BindsD d32 := fun _ _ _ _ _ _ us hl => match us, hl with | [_, _, _], _ => rfl
theorem n33 : BindsD d33 := fun _ _ _ _ _ _ us hl => match us, hl with | [_, _], _ => rfl
theorem n34 : BindsD d34 := fun _ _ _ _ _ _ us hl => match us, hl with | [_], _ => rfl
theorem n35 : BindsD d35 := fun _ _ _ _ _ _ us hl => match us, hl with | [_, _], _ => rfl
theorem n36 : BindsD d36 := fun _ _ _ _ _ _ us hl => match us, hl with | [_, _], _ => rfl
theorem n37 : BindsD d37 := fun _ _ _ _ _ _ us hl => match us, hl with | [_, _, _], _ => rfl
theorem n38 : BindsD d38 := fun _ _ _ _ _ _ us hl => match us, hl with | [_], _ => rfl
theorem n39 : BindsD d39 := fun _ _ _ _ _ _ us hl => match us, hl with | [_], _ => rfl
theorem n40 : BindsD d40 := fun _ _ _ _ _ _ us hl => match us, hl with | [_, _, _, _], _ => rfl
theorem n41 : BindsD d41 := fun _ _ _ _ _ _ us hl => match us, hl with | [_], _ => rfl
theorem n42 : BindsD d42 := fun _ _ _ _ _ _ us hl => match us, hl with | [_, _], _ => rfl
theorem n43 : BindsD d43 := fun _ _ _ _ _ _ us hl => match us, hl with | [_, _], _ => rfl
theorem n44 : BindsD d44 := fun _ _ _ _ _ _ us hl => match us, hl with | [_, _], _ => rfl
theorem n45 : BindsD d45 := fun _ _ _ _ _ _ us hl => match us, hl with | [_, _], _ => rfl
theorem n46 : BindsD d46 := fun _ _ _ _ _ _ us hl => match us, hl with | [_, _], _ => rfl
theorem n47 : BindsD d47 := fun _ _ _ _ _ _ us hl => match us, hl with | [_, _], _ => rfl
theorem n48 : BindsD d48 := fun _ _ _ _ _ _ us hl => match us, hl with | [_], _ => rfl
theorem n49 : BindsD d49 := fun _ _ _ _ _ _ us hl => match us, hl with | [_, _], _ => rfl
theorem n50 : BindsD d50 := fun _ _ _ _ _ _ us hl => match us, hl with | [_, _], _ => rfl
theorem n51 : BindsD d51 := fun _ _ _ _ _ _ us hl => match us, hl with | [_, _], _ => rfl
theorem n52 : BindsD d52 := fun _ _ _ _ _ _ us hl => match us, hl with | [_], _ => rfl
theorem n53 : BindsD d53 := fun _ _ _ _ _ _ us hl => match us, hl with | [_, _], _ => rfl
theorem n54 : BindsD d54 := fun _ _ _ _ _ _ us hl => match us, hl with | [_, _], _ => rfl
theorem n55 : BindsD d55 := fun _ _ _ _ _ _ us hl => match us, hl with | [_, _], _ => rfl
theorem n56 : BindsD d56 := fun _ _ _ _ _ _ us hl => match us, hl with | [_, _], _ => rfl
theorem n57 : BindsD d57 := fun _ _ _ _ _ _ us hl => match us, hl with | [_, _], _ => rfl
theorem n58 : BindsD d58 := fun _ _ _ _ _ _ us hl => match us, hl with | [_, _], _ => rfl
theorem n59 : BindsD d59 := fun _ _ _ _ _ _ us hl => match us, hl with | [_], _ => rfl
theorem n60 : BindsD d60 := fun _ _ _ _ _ _ us hl => match us, hl with | [_], _ => rfl
theorem n61 : BindsD d61 := fun _ _ _ _ _ _ us hl => match us, hl with | [_, _], _ => rfl
theorem n62 : BindsD d62 := fun _ _ _ _ _ _ us hl => match us, hl with | [_], _ => rfl
theorem n63 : BindsD d63 := fun _ _ _ _ _ _ us hl => match us, hl with | [_, _, _], _ => rfl
theorem n64 : BindsD d64 := fun _ _ _ _ _ _ us hl => match us, hl with | [_, _, _], _ => rfl
theorem n65 : BindsD d65 := fun _ _ _ _ _ _ us hl => match us, hl with | [_, _, _], _ => rfl
theorem n66 : BindsD d66 := fun _ _ _ _ _ _ us hl => match us, hl with | [_, _, _], _ => rfl
theorem n67 : BindsD d67 := fun _ _ _ _ _ _ us hl => match us, hl with | [_, _], _ => rfl
theorem n68 : BindsD d68 := fun _ _ _ _ _ _ us hl => match us, hl with | [_, _], _ => rfl
theorem n69 : BindsD d69 := fun _ _ _ _ _ _ us hl => match us, hl with | [_, _], _ => rfl
theorem n70 : BindsD d70 := fun _ _ _ _ _ _ us hl => match us, hl with | [_, _], _ => rfl
theorem n71 : BindsD d71 := fun _ _ _ _ _ _ us hl => match us, hl with | [_, _], _ => rfl
theorem n72 : BindsD d72 := fun _ _ _ _ _ _ us hl => match us, hl with | [_, _, _], _ => rfl
theorem n73 : BindsD d73 := fun _ _ _ _ _ _ us hl => match us, hl with | [_, _], _ => rfl
theorem n74 : BindsD d74 := fun _ _ _ _ _ _ us hl => match us, hl with | [_, _], _ => rfl
theorem n75 : BindsD d75 := fun _ _ _ _ _ _ us hl => match us, hl with | [_, _], _ => rfl
theorem n76 : BindsD d76 := fun _ _ _ _ _ _ us hl => match us, hl with | [_, _], _ => rfl
theorem n77 : BindsD d77 := fun _ _ _ _ _ _ us hl => match us, hl with | [_, _], _ => rfl
theorem n78 : BindsD d78 := fun _ _ _ _ _ _ us hl => match us, hl with | [_, _], _ => rfl
theorem n79 : BindsD d79 := fun _ _ _ _ _ _ us hl => match us, hl with | [_, _, _], _ => rfl
theorem n80 : BindsD d80 := fun _ _ _ _ _ _ us hl => match us, hl with | [_, _, _], _ => rfl
theorem n81 : BindsD d81 := fun _ _ _ _ _ _ us hl => match us, hl with | [_], _ => rfl
theorem n82 : BindsD d82 := fun _ _ _ _ _ _ us hl => match us, hl with | [_, _, _], _ => rfl
theorem n83 : BindsD d83 := fun _ _ _ _ _ _ us hl => match us, hl with | [_, _, _, _], _ => rfl
theorem n84 : BindsD d84 := fun _ _ _ _ _ _ us hl => match us, hl with | [_, _, _], _ => rfl
theorem n85 : BindsD d85 := fun _ _ _ _ _ _ us hl => match us, hl with | [_, _, _, _], _ => rfl
theorem n86 : BindsD d86 := fun _ _ _ _ _ _ us hl => match us, hl with | [_, _, _, _], _ => rfl
theorem n87 : BindsD d87 := fun _ _ _ _ _ _ us hl => match us, hl with | [_, _, _], _ => rfl
theorem n88 : BindsD d88 := fun _ _ _ _ _ _ us hl => match us, hl with | [_, _], _ => rfl
theorem n89 : BindsD d89 := fun _ _ _ _ _ _ us hl => match us, hl with | [_, _], _ => rfl
theorem n90 : BindsD d90 := fun _ _ _ _ _ _ us hl => match us, hl with | [_, _], _ => rfl
theorem n91 : BindsD d91 := fun _ _ _ _ _ _ us hl => match us, hl with | [_, _], _ => rfl
theorem n92 : BindsD d92 := fun _ _ _ _ _ _ us hl => match us, hl with | [_], _ => rfl
theorem n93 : BindsD d93 := fun _ _ _ _ _ _ us hl => match us, hl with | [_, _], _ => rfl
theorem n94 : BindsD d94 := fun _ _ _ _ _ _ us hl => match us, hl with | [_, _], _ => rfl
theorem n95 : BindsD d95 := fun _ _ _ _ _ _ us hl => match us, hl with | [_, _], _ => rfl
theorem n96 : BindsD d96 := fun _ _ _ _ _ _ us hl => match us, hl with | [_, _], _ => rfl
theorem n97 : BindsD d97 := fun _ _ _ _ _ _ us hl => match us, hl with | [_, _, _, _, _], _ => rfl
theorem n98 : BindsD d98 := fun _ _ _ _ _ _ us hl => match us, hl with | [_], _ => rfl
theorem reads (tab : Tab) : ReadsAll T tab dats := by
  unfold ReadsAll dats
  refine List.forall_mem_cons.mpr ⟨fun b e => by cases e; exact r0 tab, ?_⟩
  refine List.forall_mem_cons.mpr ⟨fun b e => by cases e; exact r1 tab, ?_⟩
  refine List.forall_mem_cons.mpr ⟨fun b e => by cases e; exact r2 tab, ?_⟩
  refine List.forall_mem_cons.mpr ⟨fun b e => by cases e; exact r3 tab, ?_⟩
  refine List.forall_mem_cons.mpr ⟨fun b e => by cases e; exact r4 tab, ?_⟩
  refine List.forall_mem_cons.mpr ⟨fun b e => by cases e; exact r5 tab, ?_⟩
  refine List.forall_mem_cons.mpr ⟨fun b e => by cases e; exact r6 tab, ?_⟩
  refine List.forall_mem_cons.mpr ⟨fun b e => by cases e; exact r7 tab, ?_⟩
  refine List.forall_mem_cons.mpr ⟨fun b e => by cases e; exact r8 tab, ?_⟩
  refine List.forall_mem_cons.mpr ⟨fun b e => by cases e; exact r9 tab, ?_⟩
  refine List.forall_mem_cons.mpr ⟨fun b e => by cases e; exact r10 tab, ?_⟩
  refine List.forall_mem_cons.mpr ⟨fun b e => by cases e; exact r11 tab, ?_⟩
  refine List.forall_mem_cons.mpr ⟨fun b e => by cases e; exact r12 tab, ?_⟩
  refine List.forall_mem_cons.mpr ⟨fun b e => by cases e; exact r13 tab, ?_⟩
  refine List.forall_mem_cons.mpr ⟨fun b e => by cases e; exact r14 tab, ?_⟩
  refine List.forall_mem_cons.mpr ⟨fun b e => by cases e; exact r15 tab, ?_⟩
  refine List.forall_mem_cons.mpr ⟨fun b e => by cases e; exact r16 tab, ?_⟩
  refine List.forall_mem_cons.mpr ⟨fun b e => by cases e; exact r17 tab, ?_⟩
  refine List.forall_mem_cons.mpr ⟨fun b e => by cases e; exact r18 tab, ?_⟩
  refine List.forall_mem_cons.mpr ⟨fun b e => by cases e; exact r19 tab, ?_⟩
  refine List.forall_mem_cons.mpr ⟨fun b e => by cases e; exact r20 tab, ?_⟩
  refine List.forall_mem_cons.mpr ⟨fun b e => by cases e; exact r21 tab, ?_⟩
  refine List.forall_mem_cons.mpr ⟨fun b e => by cases e; exact r22 tab, ?_⟩
  refine List.forall_mem_cons.mpr ⟨fun b e => by cases e; exact r23 tab, ?_⟩
  refine List.forall_mem_cons.mpr ⟨fun b e => by cases e; exact r24 tab, ?_⟩
  refine List.forall_mem_cons.mpr ⟨fun b e => by cases e; exact r25 tab, ?_⟩
  refine List.forall_mem_cons.mpr ⟨fun b e => by cases e; exact r26 tab, ?_⟩
  refine List.forall_mem_cons.mpr ⟨fun b e => by cases e; exact r27 tab, ?_⟩
  refine List.forall_mem_cons.mpr ⟨fun b e => by cases e; exact r28 tab, ?_⟩
  refine List.forall_mem_cons.mpr ⟨fun b e => by cases e; exact r29 tab, ?_⟩
  refine List.forall_mem_cons.mpr ⟨fun b e => by cases e; exact r30 tab, ?_⟩
  refine List.forall_mem_cons.mpr ⟨fun b e => by cases e; exact r31 tab, ?_⟩
  refine List.forall_mem_cons.mpr ⟨fun b e => by cases e; exact r32 tab, ?_⟩
  refine List.forall_mem_cons.mpr ⟨fun b e => by cases e; exact r33 tab, ?_⟩
  refine List.forall_mem_cons.mpr ⟨fun b e => by cases e; exact r34 tab, ?_⟩
  refine List.forall_mem_cons.mpr ⟨fun b e => by cases e; exact r35 tab, ?_⟩
  refine List.forall_mem_cons.mpr ⟨fun b e => by cases e; exact r36 tab, ?_⟩
  refine List.forall_mem_cons.mpr ⟨fun b e => by cases e; exact r37 tab, ?_⟩
  refine List.forall_mem_cons.mpr ⟨fun b e => by cases e; exact r38 tab, ?_⟩
  refine List.forall_mem_cons.mpr ⟨fun b e => by cases e; exact r39 tab, ?_⟩
  refine List.forall_mem_cons.mpr ⟨fun b e => by cases e; exact r40 tab, ?_⟩
  refine List.forall_mem_cons.mpr ⟨fun b e => by cases e; exact r41 tab, ?_⟩
  refine List.forall_mem_cons.mpr ⟨fun b e => by cases e; exact r42 tab, ?_⟩
  refine List.forall_mem_cons.mpr ⟨fun b e => by cases e; exact r43 tab, ?_⟩
  refine List.forall_mem_cons.mpr ⟨fun b e => by cases e; exact r44 tab, ?_⟩
  refine List.forall_mem_cons.mpr ⟨fun b e => by cases e; exact r45 tab, ?_⟩
  refine List.forall_mem_cons.mpr ⟨fun b e => by cases e; exact r46 tab, ?_⟩
  refine List.forall_mem_cons.mpr ⟨fun b e => by cases e; exact r47 tab, ?_⟩
  refine List.forall_mem_cons.mpr ⟨fun b e => by cases e; exact r48 tab, ?_⟩
  refine List.forall_mem_cons.mpr ⟨fun b e => by cases e; exact r49 tab, ?_⟩
  refine List.forall_mem_cons.mpr ⟨fun b e => by cases e; exact r50 tab, ?_⟩
  refine List.forall_mem_cons.mpr ⟨fun b e => by cases e; exact r51 tab, ?_⟩
  refine List.forall_mem_cons.mpr ⟨fun b e => by cases e; exact r52 tab, ?_⟩
  refine List.forall_mem_cons.mpr ⟨fun b e => by cases e; exact r53 tab, ?_⟩
  refine List.forall_mem_cons.mpr ⟨fun b e => by cases e; exact r54 tab, ?_⟩
  refine List.forall_mem_cons.mpr ⟨fun b e => by cases e; exact r55 tab, ?_⟩
  refine List.forall_mem_cons.mpr ⟨fun b e => by cases e; exact r56 tab, ?_⟩
  refine List.forall_mem_cons.mpr ⟨fun b e => by cases e; exact r57 tab, ?_⟩
  refine List.forall_mem_cons.mpr ⟨fun b e => by cases e; exact r58 tab, ?_⟩
  refine List.forall_mem_cons.mpr ⟨fun b e => by cases e; exact r59 tab, ?_⟩
  refine List.forall_mem_cons.mpr ⟨fun b e => by cases e; exact r60 tab, ?_⟩
  refine List.forall_mem_cons.mpr ⟨fun b e => by cases e; exact r61 tab, ?_⟩
  refine List.forall_mem_cons.mpr ⟨fun b e => by cases e; exact r62 tab, ?_⟩
  refine List.forall_mem_cons.mpr ⟨fun b e => by cases e; exact r63 tab, ?_⟩
  refine List.forall_mem_cons.mpr ⟨fun b e => by cases e; exact r64 tab, ?_⟩
  refine List.forall_mem_cons.mpr ⟨fun b e => by cases e; exact r65 tab, ?_⟩
  refine List.forall_mem_cons.mpr ⟨fun b e => by cases e; exact r66 tab, ?_⟩
  refine List.forall_mem_cons.mpr ⟨fun b e => by cases e; exact r67 tab, ?_⟩
  refine List.forall_mem_cons.mpr ⟨fun b e => by cases e; exact r68 tab, ?_⟩
  refine List.forall_mem_cons.mpr ⟨fun b e => by cases e; exact r69 tab, ?_⟩
  refine List.forall_mem_cons.mpr ⟨fun b e => by cases e; exact r70 tab, ?_⟩
  refine List.forall_mem_cons.mpr ⟨fun b e => by cases e; exact r71 tab, ?_⟩
  refine List.forall_mem_cons.mpr ⟨fun b e => by cases e; exact r72 tab, ?_⟩
  refine List.forall_mem_cons.mpr ⟨fun b e => by cases e; exact r73 tab, ?_⟩
  refine List.forall_mem_cons.mpr ⟨fun b e => by cases e; exact r74 tab, ?_⟩
  refine List.forall_mem_cons.mpr ⟨fun b e => by cases e; exact r75 tab, ?_⟩
  refine List.forall_mem_cons.mpr ⟨fun b e => by cases e; exact r76 tab, ?_⟩
  refine List.forall_mem_cons.mpr ⟨fun b e => by cases e; exact r77 tab, ?_⟩
  refine List.forall_mem_cons.mpr ⟨fun b e => by cases e; exact r78 tab, ?_⟩
  refine List.forall_mem_cons.mpr ⟨fun b e => by cases e; exact r79 tab, ?_⟩
  refine List.forall_mem_cons.mpr ⟨fun b e => by cases e; exact r80 tab, ?_⟩
  refine List.forall_mem_cons.mpr ⟨fun b e => by cases e; exact r81 tab, ?_⟩
  refine List.forall_mem_cons.mpr ⟨fun b e => by cases e; exact r82 tab, ?_⟩
  refine List.forall_mem_cons.mpr ⟨fun b e => by cases e; exact r83 tab, ?_⟩
  refine List.forall_mem_cons.mpr ⟨fun b e => by cases e; exact r84 tab, ?_⟩
  refine List.forall_mem_cons.mpr ⟨fun b e => by cases e; exact r85 tab, ?_⟩
  refine List.forall_mem_cons.mpr ⟨fun b e => by cases e; exact r86 tab, ?_⟩
  refine List.forall_mem_cons.mpr ⟨fun b e => by cases e; exact r87 tab, ?_⟩
  refine List.forall_mem_cons.mpr ⟨fun b e => by cases e; exact r88 tab, ?_⟩
  refine List.forall_mem_cons.mpr ⟨fun b e => by cases e; exact r89 tab, ?_⟩
  refine List.forall_mem_cons.mpr ⟨fun b e => by cases e; exact r90 tab, ?_⟩
  refine List.forall_mem_cons.mpr ⟨fun b e => by cases e; exact r91 tab, ?_⟩
  refine List.forall_mem_cons.mpr ⟨fun b e => by cases e; exact r92 tab, ?_⟩
  refine List.forall_mem_cons.mpr ⟨fun b e => by cases e; exact r93 tab, ?_⟩
  refine List.forall_mem_cons.mpr ⟨fun b e => by cases e; exact r94 tab, ?_⟩
  refine List.forall_mem_cons.mpr ⟨fun b e => by cases e; exact r95 tab, ?_⟩
  refine List.forall_mem_cons.mpr ⟨fun b e => by cases e; exact r96 tab, ?_⟩
  refine List.forall_mem_cons.mpr ⟨fun b e => by cases e; exact r97 tab, ?_⟩
  refine List.forall_mem_cons.mpr ⟨fun b e => by cases e; exact r98 tab, ?_⟩
  exact fun _ m => nomatch m
theorem binds : ∀ d ∈ dats, BindsD d := by
  unfold dats
  refine List.forall_mem_cons.mpr ⟨n0, ?_⟩
  refine List.forall_mem_cons.mpr ⟨n1, ?_⟩
  refine List.forall_mem_cons.mpr ⟨n2, ?_⟩
  refine List.forall_mem_cons.mpr ⟨n3, ?_⟩
  refine List.forall_mem_cons.mpr ⟨n4, ?_⟩
  refine List.forall_mem_cons.mpr ⟨n5, ?_⟩
  refine List.forall_mem_cons.mpr ⟨n6, ?_⟩
  refine List.forall_mem_cons.mpr ⟨n7, ?_⟩
  refine List.forall_mem_cons.mpr ⟨n8, ?_⟩
  refine List.forall_mem_cons.mpr ⟨n9, ?_⟩
  refine List.forall_mem_cons.mpr ⟨n10, ?_⟩
  refine List.forall_mem_cons.mpr ⟨n11, ?_⟩
  refine List.forall_mem_cons.mpr ⟨n12, ?_⟩
  refine List.forall_mem_cons.mpr ⟨n13, ?_⟩
  refine List.forall_mem_cons.mpr ⟨n14, ?_⟩
  refine List.forall_mem_cons.mpr ⟨n15, ?_⟩
  refine List.forall_mem_cons.mpr ⟨n16, ?_⟩
  refine List.forall_mem_cons.mpr ⟨n17, ?_⟩
  refine List.forall_mem_cons.mpr ⟨n18, ?_⟩
  refine List.forall_mem_cons.mpr ⟨n19, ?_⟩
  refine List.forall_mem_cons.mpr ⟨n20, ?_⟩
  refine List.forall_mem_cons.mpr ⟨n21, ?_⟩
  refine List.forall_mem_cons.mpr ⟨n22, ?_⟩
  refine List.forall_mem_cons.mpr ⟨n23, ?_⟩
  refine List.forall_mem_cons.mpr ⟨n24, ?_⟩
  refine List.forall_mem_cons.mpr ⟨n25, ?_⟩
  refine List.forall_mem_cons.mpr ⟨n26, ?_⟩
  refine List.forall_mem_cons.mpr ⟨n27, ?_⟩
  refine List.forall_mem_cons.mpr ⟨n28, ?_⟩
  refine List.forall_mem_cons.mpr ⟨n29, ?_⟩
  refine List.forall_mem_cons.mpr ⟨n30, ?_⟩
  refine List.forall_mem_cons.mpr ⟨n31, ?_⟩
  refine List.forall_mem_cons.mpr ⟨n32, ?_⟩
  refine List.forall_mem_cons.mpr ⟨n33, ?_⟩
  refine List.forall_mem_cons.mpr ⟨n34, ?_⟩
  refine List.forall_mem_cons.mpr ⟨n35, ?_⟩
  refine List.forall_mem_cons.mpr ⟨n36, ?_⟩
  refine List.forall_mem_cons.mpr ⟨n37, ?_⟩
  refine List.forall_mem_cons.mpr ⟨n38, ?_⟩
  refine List.forall_mem_cons.mpr ⟨n39, ?_⟩
  refine List.forall_mem_cons.mpr ⟨n40, ?_⟩
  refine List.forall_mem_cons.mpr ⟨n41, ?_⟩
  refine List.forall_mem_cons.mpr ⟨n42, ?_⟩
  refine List.forall_mem_cons.mpr ⟨n43, ?_⟩
  refine List.forall_mem_cons.mpr ⟨n44, ?_⟩
  refine List.forall_mem_cons.mpr ⟨n45, ?_⟩
  refine List.forall_mem_cons.mpr ⟨n46, ?_⟩
  refine List.forall_mem_cons.mpr ⟨n47, ?_⟩
  refine List.forall_mem_cons.mpr ⟨n48, ?_⟩
  refine List.forall_mem_cons.mpr ⟨n49, ?_⟩
  refine List.forall_mem_cons.mpr ⟨n50, ?_⟩
  refine List.forall_mem_cons.mpr ⟨n51, ?_⟩
  refine List.forall_mem_cons.mpr ⟨n52, ?_⟩
  refine List.forall_mem_cons.mpr ⟨n53, ?_⟩
  refine List.forall_mem_cons.mpr ⟨n54, ?_⟩
  refine List.forall_mem_cons.mpr ⟨n55, ?_⟩
  refine List.forall_mem_cons.mpr ⟨n56, ?_⟩
  refine List.forall_mem_cons.mpr ⟨n57, ?_⟩
  refine List.forall_mem_cons.mpr ⟨n58, ?_⟩
  refine List.forall_mem_cons.mpr ⟨n59, ?_⟩
  refine List.forall_mem_cons.mpr ⟨n60, ?_⟩
  refine List.forall_mem_cons.mpr ⟨n61, ?_⟩
  refine List.forall_mem_cons.mpr ⟨n62, ?_⟩
  refine List.forall_mem_cons.mpr ⟨n63, ?_⟩
  refine List.forall_mem_cons.mpr ⟨n64, ?_⟩
  refine List.forall_mem_cons.mpr ⟨n65, ?_⟩
  refine List.forall_mem_cons.mpr ⟨n66, ?_⟩
  refine List.forall_mem_cons.mpr ⟨n67, ?_⟩
  refine List.forall_mem_cons.mpr ⟨n68, ?_⟩
  refine List.forall_mem_cons.mpr ⟨n69, ?_⟩
  refine List.forall_mem_cons.mpr ⟨n70, ?_⟩
  refine List.forall_mem_cons.mpr ⟨n71, ?_⟩
  refine List.forall_mem_cons.mpr ⟨n72, ?_⟩
  refine List.forall_mem_cons.mpr ⟨n73, ?_⟩
  refine List.forall_mem_cons.mpr ⟨n74, ?_⟩
  refine List.forall_mem_cons.mpr ⟨n75, ?_⟩
  refine List.forall_mem_cons.mpr ⟨n76, ?_⟩
  refine List.forall_mem_cons.mpr ⟨n77, ?_⟩
  refine List.forall_mem_cons.mpr ⟨n78, ?_⟩
  refine List.forall_mem_cons.mpr ⟨n79, ?_⟩
  refine List.forall_mem_cons.mpr ⟨n80, ?_⟩
  refine List.forall_mem_cons.mpr ⟨n81, ?_⟩
  refine List.forall_mem_cons.mpr ⟨n82, ?_⟩
  refine List.forall_mem_cons.mpr ⟨n83, ?_⟩
  refine List.forall_mem_cons.mpr ⟨n84, ?_⟩
  refine List.forall_mem_cons.mpr ⟨n85, ?_⟩
  refine List.forall_mem_cons.mpr ⟨n86, ?_⟩
  refine List.forall_mem_cons.mpr ⟨n87, ?_⟩
  refine List.forall_mem_cons.mpr ⟨n88, ?_⟩
  refine List.forall_mem_cons.mpr ⟨n89, ?_⟩
  refine List.forall_mem_cons.mpr ⟨n90, ?_⟩
  refine List.forall_mem_cons.mpr ⟨n91, ?_⟩
  refine List.forall_mem_cons.mpr ⟨n92, ?_⟩
  refine List.forall_mem_cons.mpr ⟨n93, ?_⟩
  refine List.forall_mem_cons.mpr ⟨n94, ?_⟩
  refine List.forall_mem_cons.mpr ⟨n95, ?_⟩
  refine List.forall_mem_cons.mpr ⟨n96, ?_⟩
  refine List.forall_mem_cons.mpr ⟨n97, ?_⟩
  refine List.forall_mem_cons.mpr ⟨n98, ?_⟩
  exact fun _ m => nomatch m
theorem okT : T.Ok where
  dat := by decide +kernel
  n := by decide +kernel
  fns := by decide +kernel
  mks := by decide +kernel
  mts := by decide +kernel
  nd := by decide +kernel
  excs := by decide +kernel
  cons := by decide +kernel
theorem texts : Texts T tabN := ⟨okT, reads, tab_at, binds⟩
end K75
end FP
end
section
set_option maxHeartbeats 0
namespace FP
namespace K75
open PySem PySem.Spec PyProof.Rows L2
abbrev R : PySem.W.OpenRow := PySem.W.OpenLaw.row PySem.Challenge.rw_fingercounts_k75_chances_by_hand_and_ref
def hk : PySem.W.Hook := hookF 4 T
def ob (s : PySem.W.SharedT) : He.AlD := obsFG 4 T (HandSHeadRun.getT s)
theorem ob_eq (s : PySem.W.SharedT) : ob s = hk.obs s.abs := obsFG_eq (HandSHeadRun.getT_eq s)
def loose0 : List Str := ["_wall", "CanNot", "TooMuch", "Unfit", "is_number", "tuple_of", "is_tuple_of", "YES", "MOST_WIDE", "is_letter_set", "is_letter", "is_text", "sure_wide_of", "sure_letters_of", "NOUGHT", "WHOLE", "divisor", "ratio_of", "is_fraction", "plus"]
def loose1 : List Str := ["less", "times", "over", "is_below", "power", "raised", "summed", "sign_of", "is_small", "LATER", "AHEAD", "parts_of_mood", "is_mood", "inner_moods", "mood_size_in", "MOST_WATCHED", "MOST_GAPS", "watched_in", "Stands", "joined"]
def loose2 : List Str := ["subsets", "is_demand", "sure_demand", "Going", "trimmed", "poly_value", "poly_added", "poly_times", "choose", "poly_moved", "poly_settled", "poly_summed", "MOST_FROM", "NO_SUM", "sure_count", "parts_value", "value_in", "in_order", "made_short", "added_in"]
def loose3 : List Str := ["times_in", "less_in", "behind_in", "folded_in", "leading_in", "shares_of", "are_small", "sign_in", "settled_from", "Web", "ONCE", "weight_of", "step_sum", "stay_sum", "web_sums", "weighed", "end_of_both", "both_demands", "limit_share", "MOST_CHANCE"]
def loose4 : List Str := ["MOST_DRAWN", "MOST_SHARE", "is_chances_form", "is_chances", "sure_chances", "text_chance", "chance_in", "limit_in", "chance_sum", "chance_at", "limit_chance", "chance_given", "reaches", "chance_in_form", "_law_box", "_law_take", "_law_cells", "_law_same", "_law_lists", "_law_of"]
def loose5 : List Str := ["_law_gcd", "_law_frac", "_law_raised", "_law_try"]
def loose : List Str := loose0 ++ loose1 ++ loose2 ++ loose3 ++ loose4 ++ loose5
theorem run (w : World) : HandSHeadRun.RunEq R (PySem.W.view R.prog [119]) hk ob 8000 loose w := by
  intro os
  kernel_rfl
end K75
end FP
end
section
set_option maxHeartbeats 0
namespace FP
namespace K75
def v_one : Vl := .tup [.str [108, 101, 116, 116, 101, 114], .tup [.int 1]]
def v_even : Vl := .tup [.tup [.int 1, .int 2], .tup [.int 1, .int 2]]
def v_odd : Vl := .tup [.tup [.int 1, .int 3], .tup [.int 2, .int 3]]
def v_three : Vl := .tup [.tup [.int 1, .int 2], .tup [.int 1, .int 3], .tup [.int 1, .int 6]]
def v_some : Vl := .tup [.tup [.str [108, 97, 116, 101, 114], .tup [.str [108, 101, 116, 116, 101, 114], .tup [.int 1]]], .tup [.str [121, 101, 115]]]
def v_none : Vl := .tup [.tup [.str [110, 111, 116], .tup [.str [108, 97, 116, 101, 114], .tup [.str [121, 101, 115]]]], .tup [.str [121, 101, 115]]]
def v_every : Vl := .tup [.tup [.str [121, 101, 115]], .tup [.str [121, 101, 115]]]
def v_never : Vl := .tup [.tup [.str [110, 111, 116], .tup [.str [121, 101, 115]]], .tup [.str [121, 101, 115]]]
def v_last : Vl := .tup [.tup [.str [121, 101, 115]], .tup [.str [97, 104, 101, 97, 100], .tup [.str [97, 110, 100], .tup [.str [108, 101, 116, 116, 101, 114], .tup [.int 1]], .tup [.str [110, 111, 116], .tup [.str [108, 97, 116, 101, 114], .tup [.str [121, 101, 115]]]]]]]
def v_lone : Vl := .tup [.tup [.str [97, 110, 100], .tup [.str [108, 97, 116, 101, 114], .tup [.str [108, 101, 116, 116, 101, 114], .tup [.int 1]]], .tup [.str [110, 111, 116], .tup [.str [108, 97, 116, 101, 114], .tup [.str [97, 110, 100], .tup [.str [108, 101, 116, 116, 101, 114], .tup [.int 1]], .tup [.str [108, 97, 116, 101, 114], .tup [.str [108, 101, 116, 116, 101, 114], .tup [.int 1]]]]]]], .tup [.str [121, 101, 115]]]
def v_many : Vl := .tup [.str [97, 104, 101, 97, 100], .tup [.str [97, 104, 101, 97, 100], .tup [.str [97, 104, 101, 97, 100], .tup [.str [97, 104, 101, 97, 100], .tup [.str [97, 104, 101, 97, 100], .tup [.str [97, 104, 101, 97, 100], .tup [.str [97, 104, 101, 97, 100], .tup [.str [108, 101, 116, 116, 101, 114], .tup [.int 1]]]]]]]]]
def v_bad0 : Vl := .tup [.tup [.int 1, .int 2], .tup [.int 1, .int 3]]
def v_bad1 : Vl := .tup [.tup [.int 1, .int 2]]
def v_bad2 : Vl := .int 0
def v_bad3 : Vl := .tup [.tup [.int 1, .int 1], .tup [.int 0, .int 1]]
def v_bad4 : Vl := .tup [.tup [.int 1, .int 61], .tup [.int 60, .int 61]]
def st0 (n : Int) : Env := ⟨⟨none, some (.loc 0), some (.int n), some (v_one), none, none, none⟩, rep7 none, rep7 none, rep7 none, rep7 none, rep7 none, rep7 none⟩
def st1 (n : Int) : Env := ⟨⟨none, some (.loc 0), some (.int n), some (v_one), some (v_even), some (v_odd), some (v_three)⟩, ⟨some (v_some), some (v_none), some (v_every), some (v_never), some (v_last), some (v_lone), none⟩, rep7 none, rep7 none, rep7 none, rep7 none, rep7 none⟩
def st2 (n : Int) : Env := ⟨⟨none, some (.loc 0), some (.int n), some (v_one), some (v_even), some (v_odd), some (v_three)⟩, ⟨some (v_some), some (v_none), some (v_every), some (v_never), some (v_last), some (v_lone), none⟩, ⟨none, none, none, some (v_many), none, none, none⟩, rep7 none, rep7 none, rep7 none, rep7 none⟩
def stB (b : Vl) : Env := ⟨⟨none, none, none, none, none, some (v_odd), none⟩, ⟨some (v_some), some (v_none), none, some (v_never), none, none, none⟩, ⟨none, none, none, some (v_many), none, some (b), none⟩, rep7 none, rep7 none, rep7 none, rep7 none⟩
def body : List EvS := b98 (tabL tabN 40)
def L0 : List Nat := [1, 2, 3]
def L1 : List Nat := [1, 2, 3, 4, 5, 6, 7, 8, 9, 10, 11, 12]
def L2 : List Nat := [1, 2, 3, 4, 5, 6, 7, 8, 9, 10, 11, 12, 17]
def LB : List Nat := [5, 7, 8, 10, 17, 19]
def val (L : List Nat) (r : Env) (x y z : Int) : Option (List (Option Vl) × Option Ob) := some (L.map fun i => gOf i r, some (.lst [.int x, .int y, .int z]))
def ns : List Int := [.ofNat 0, .ofNat 1, .ofNat 2, .ofNat 3, .ofNat 4, .ofNat 5, .ofNat 6, .ofNat 7, .ofNat 8, .ofNat 9, .ofNat 10, .ofNat 11, .ofNat 12, .ofNat 13, .ofNat 14, .ofNat 15, .ofNat 16, .ofNat 17, .ofNat 18, .ofNat 19, .ofNat 20, .ofNat 21, .ofNat 22, .ofNat 23, .ofNat 24, .ofNat 25, .ofNat 26, .ofNat 27, .ofNat 28, .ofNat 29, .ofNat 30, .ofNat 31, .ofNat 32, .ofNat 33, .ofNat 34, .ofNat 35, .ofNat 36, .ofNat 37, .ofNat 38, .ofNat 39]
theorem partA (n x y z : Int) : prj L1 0 (cutS body 2 4 (st0 n) (eta3 x y z)) = val L1 (st1 n) x y z := by kernel_rfl
theorem partB (x y z : Int) : (ns.map fun n => prj L1 0 (cutS body 6 4 (st1 n) (eta3 x y z))) = ns.map fun n => val L1 (st1 n) x y z := by kernel_rfl
theorem partC1 (n x y z : Int) : prj L1 0 (cutS body 10 4 (st1 n) (eta3 x y z)) = val L1 (st1 n) x y z := by kernel_rfl
theorem partC2 (n x y z : Int) : prj L1 0 (cutS body 14 3 (st1 n) (eta3 x y z)) = val L1 (st1 n) x y z := by kernel_rfl
theorem partC3 (n x y z : Int) : prj L1 0 (cutS body 17 3 (st1 n) (eta3 x y z)) = val L1 (st1 n) x y z := by kernel_rfl
theorem partC4 (n x y z : Int) : prj L1 0 (cutS body 20 4 (st1 n) (eta3 x y z)) = val L1 (st1 n) x y z := by kernel_rfl
theorem partE (n x y z : Int) : prj L2 0 (cutS body 24 2 (st1 n) (eta3 x y z)) = val L2 (st2 n) x y z := by kernel_rfl
theorem partG_0 : prT (cutS body 27 7 (stB v_bad0) .nil) = true := by kernel_rfl
theorem partG_1 : prT (cutS body 27 7 (stB v_bad1) .nil) = true := by kernel_rfl
theorem partG_2 : prT (cutS body 27 7 (stB v_bad2) .nil) = true := by kernel_rfl
theorem partG_3 : prT (cutS body 27 7 (stB v_bad3) .nil) = true := by kernel_rfl
theorem partG_4 : prT (cutS body 27 7 (stB v_bad4) .nil) = true := by kernel_rfl
end K75
end FP
end
section
set_option maxHeartbeats 0
namespace FP
namespace K75
open PySem PySem.Spec PyProof.Rows L2 PySem.SeqAt
def sN : EvS := sPar [s2, s3] (qCons (eCall (fnI [s0, s1] (sSeq bTake)) (qCons (eVar g1) (qCons (eCst (.int 40)) qNil))) (qCons (eQ qTuple (qCons (eCst (.str [108, 101, 116, 116, 101, 114])) (qCons (eQ qTuple (qCons (eCst (.int 1)) qNil)) qNil))) qNil))
def eGoods : EvE := eQ qList (qCons (eQ qTuple (qCons (eQ qTuple (qCons (eCst (.int 1)) (qCons (eCst (.int 2)) qNil))) (qCons (eQ qTuple (qCons (eCst (.int 1)) (qCons (eCst (.int 3)) qNil))) qNil))) (qCons (eQ qTuple (qCons (eQ qTuple (qCons (eCst (.int 1)) (qCons (eCst (.int 2)) qNil))) qNil)) (qCons (eCst (.int 0)) (qCons (eQ qTuple (qCons (eQ qTuple (qCons (eCst (.int 1)) (qCons (eCst (.int 1)) qNil))) (qCons (eQ qTuple (qCons (eCst (.int 0)) (qCons (eCst (.int 1)) qNil))) qNil))) (qCons (eQ qTuple (qCons (eQ qTuple (qCons (eCst (.int 1)) (qCons (eCst (.int 61)) qNil))) (qCons (eQ qTuple (qCons (eCst (.int 60)) (qCons (eCst (.int 61)) qNil))) qNil))) qNil)))))
def goods : List Vl := [v_bad0, v_bad1, v_bad2, v_bad3, v_bad4]
theorem split : body = (body.drop 0).take 2 ++ ((body.drop 2).take 4 ++ ((body.drop 6).take 4 ++ ((body.drop 10).take 4 ++ ((body.drop 14).take 3 ++ ((body.drop 17).take 3 ++ ((body.drop 20).take 4 ++ ((body.drop 24).take 2 ++ ((body.drop 26).take 1 ++ ((body.drop 27).take 7))))))))) := by kernel_rfl
theorem first : (body.drop 0).take 2 = [sTin (fnI [s0, s1] (sSeq bBox)) (fnI [s0, s1] (sSeq bCells)), sN] := by kernel_rfl
theorem last_ : (body.drop 26).take 1 = [sAsg (gNm s19) (eCall (fnI [s0, s1] (sSeq (bOf (fnI [s0, s1] (sSeq bTake))))) (qCons (eVar g1) (qCons eGoods qNil)))] := by kernel_rfl
theorem goods_ev (n x y z : Int) : eGoods (st2 n) (eta3 x y z) = .ok (.loc 1) ((eta3 x y z).app (.lst goods)) := by kernel_rfl
theorem in_ns : ∀ k : Nat, k < 40 → ((k : Int)) ∈ ns := by decide +kernel
def rI (v : Vl) : Env := ⟨⟨some v, none, none, none, none, none, none⟩, rep7 none, rep7 none, rep7 none, rep7 none, rep7 none, rep7 none⟩
theorem rI_env {G : Gd} {φ : List Addr} {H : Hp} {v : Vl} {a : Addr} (R : RV G.K φ H v (.ref a)) : EnvR G d98.N.length φ H (rI v) (start d98.N [.ref a]) := ⟨rfl, fun i x h hi => by
  have hn : ∀ j, j < 49 → j ≠ 0 → gOf j (rI v) = none := by
    intro j hj h0
    have : ((List.range 49).all fun j => Nat.beq j 0 || (gOf j (rI v)).isNone) = true := rfl
    have := List.all_eq_true.mp this j (List.mem_range.mpr hj)
    rw [Bool.or_eq_true] at this
    rcases this with q | q
    · exact absurd (Nat.eq_of_beq_eq_true q) h0
    · exact Option.isNone_iff_eq_none.mp q
  by_cases e : i = 0
  · subst e
    have : some v = some x := h
    cases this
    exact ⟨_, rfl, R⟩
  · rw [hn i hi e] at h; cases h⟩
theorem first_ev {h h1 h2 : He} {v : Vl} {q : Nat} {d : Int} (w1 : sTin (fnI [s0, s1] (sSeq bBox)) (fnI [s0, s1] (sSeq bCells)) (rI v) h = .ok (.nx (s1 (some (.loc q)) (rI v))) h1) (w2 : fnI [s0, s1] (sSeq bTake) [.loc q, .int 40] h1 = .ok (.int d) h2) :
    sSeq ((body.drop 0).take 2) (rI v) h = .ok (.nx (s3 (some v_one) (s2 (some (.int d)) (s1 (some (.loc q)) (rI v))))) h2 := by
  rw [first]
  show (sTin _ _ (rI v) h).nxt (fun r h => (sN r h).nxt fun r h => .ok (.nx r) h) = _
  rw [w1]
  simp only [Rst.nxt, sN, sAsg, sPar, parL, eQ, qCons, e2, eCst, eCall, eVar, g1, s1, Rs.bind, w2, add_ev, qTuple, Rs.toS, gTup, seqOf, gEach, gNm, s2, s3, Rs.bindN, Rs.toN, qNil]
  rfl
theorem last_ev {n x y z : Int} {v : Vl} {h3 : He} (w : fnI [s0, s1] (sSeq (bOf (fnI [s0, s1] (sSeq bTake)))) [.loc 0, .loc 1] ((eta3 x y z).app (.lst goods)) = .ok v h3) :
    sSeq ((body.drop 26).take 1) (st2 n) (eta3 x y z) = .ok (.nx (s19 (some v) (st2 n))) h3 := by
  rw [last_]
  have e : eVar g1 (st2 n) (eta3 x y z) = .ok (.loc 0) (eta3 x y z) := rfl
  simp only [sSeq, sAsg, eCall, qCons, qNil, e, Rs.bind, goods_ev, w, Rs.toS, gNm, Rs.toN, Rst.nxt]
theorem partG {v : Vl} (h : v ∈ goods) : prT (cutS body 27 7 (stB v) .nil) = true := by
  unfold goods at h
  rcases List.mem_cons.mp h with rfl | h
  · exact partG_0
  rcases List.mem_cons.mp h with rfl | h
  · exact partG_1
  rcases List.mem_cons.mp h with rfl | h
  · exact partG_2
  rcases List.mem_cons.mp h with rfl | h
  · exact partG_3
  rcases List.mem_cons.mp h with rfl | h
  · exact partG_4
  cases h
theorem goods_plain {v : Vl} (h : v ∈ goods) : plainA LB (stB v) = true := by
  have : goods.all (fun v => plainA LB (stB v)) = true := by decide +kernel
  exact List.all_eq_true.mp this v h
theorem run_law {G : Gd} {K : PySem.W.Frag} (hK : G.K = K) (W : WX) (a : Addr) (ls : List Int) (H : Hp) (Q : VK) (hl : ls.length ≤ 63) (hS : SqL K H a (ls.map V.int)) (hQ : ∀ H', Q (.bl true) H') :
    tAll G d98.N.length W body tNext { nx := fun _ H' => Q .non H', rt := Q } (start d98.N [.ref a]) H := by
  rw [split]
  simp only [tAll_app]
  obtain ⟨φ, η, v, S, R, sv⟩ := enter hK hS
  obtain ⟨q, x, y, h1, w1, F1, hg1⟩ := tin_ok S.full (r := rI v) sv (by omega) rfl
  obtain ⟨d, x', z', d0, d1, z0, z1, w2⟩ := take_ok (b := 40) hg1 (by omega) (by omega) (by omega) (by omega)
  refine part_nx S (rI_env R) (first_ev w1 w2) fun φ' H' σ' S' E' => ?_
  have A : At G d98.N.length (st0 (d)) x' y z' σ' H' := at_next (t := q) (tin := 1) (L := L0) S' E' rfl (by decide) rfl rfl (fun i m hi => by
    have m : i ∈ [1, 2, 3] := m
    rcases List.mem_cons.mp m with rfl | m
    · exact absurd rfl hi
    rcases List.mem_cons.mp m with rfl | m
    · rfl
    rcases List.mem_cons.mp m with rfl | m
    · rfl
    cases m) (get_set3 hg1)
  obtain ⟨k, hk, hd⟩ : ∃ k : Nat, k < 40 ∧ d = (k : Int) := ⟨d.toNat, by omega, by omega⟩
  have hn : (d) ∈ ns := by rw [hd]; exact in_ns k hk
  generalize d = n at A hn
  refine part_run (L := L1) (tin := 1) (r2 := st1 n) A rfl (by decide) (by decide) rfl (partA n x' y z') fun σ' H' A => ?_
  refine part_run (L := L1) (tin := 1) (r2 := st1 n) A rfl (by decide) (by decide) rfl (map_at (partB x' y z') n hn) fun σ' H' A => ?_
  refine part_run (L := L1) (tin := 1) (r2 := st1 n) A rfl (by decide) (by decide) rfl (partC1 n x' y z') fun σ' H' A => ?_
  refine part_run (L := L1) (tin := 1) (r2 := st1 n) A rfl (by decide) (by decide) rfl (partC2 n x' y z') fun σ' H' A => ?_
  refine part_run (L := L1) (tin := 1) (r2 := st1 n) A rfl (by decide) (by decide) rfl (partC3 n x' y z') fun σ' H' A => ?_
  refine part_run (L := L1) (tin := 1) (r2 := st1 n) A rfl (by decide) (by decide) rfl (partC4 n x' y z') fun σ' H' A => ?_
  refine part_run (L := L2) (tin := 1) (r2 := st2 n) A rfl (by decide) (by decide) rfl (partE n x' y z') fun σ' H' A => ?_
  obtain ⟨a2, S2, E2⟩ := A
  obtain ⟨v, h3, w3, hv⟩ := of_ok (h := (eta3 x' y z').app (.lst goods)) (p := 0) (q := 1) (by decide) (x := x') (y := y) (z := z') (xs := goods) rfl rfl (by decide) (by decide) z0 (by omega)
  refine part_nx S2 E2 (last_ev w3) fun φ' H' σ' S' E' => ?_
  refine part_end (r := stB v) Sim.empty (env_plain (L := LB) E' (goods_plain hv) fun i m => ?_) (partG hv) hQ
  have m : i ∈ [5, 7, 8, 10, 17, 19] := m
  rcases List.mem_cons.mp m with rfl | m
  · rfl
  rcases List.mem_cons.mp m with rfl | m
  · rfl
  rcases List.mem_cons.mp m with rfl | m
  · rfl
  rcases List.mem_cons.mp m with rfl | m
  · rfl
  rcases List.mem_cons.mp m with rfl | m
  · rfl
  rcases List.mem_cons.mp m with rfl | m
  · rfl
  cases m
end K75
end FP
end
set_option maxHeartbeats 0
namespace FP
namespace K75
open PySem PySem.Spec PyProof.Rows L2 PySem.SeqAt
theorem facts {P : Program} {w : World} {K : PySem.W.Frag} {h : Heap} {mg : Str → Option Value} {f : Addr} (X : K.In h) (Gn : h.Ns mainGlobals mg) (hfa : mg ("law" : Str) = some (.ref f)) (c : SaysF T K) :
    ∃ fd : FuncData, (∀ (s : Shared) (v : Value), BindsTo s fd ⟨[v], []⟩ [("script", v)]) ∧ ∀ base : Heap, K.In base → base.Ns mainGlobals mg → FnOk P w K mg base (L2.CX P w) (2 * 40 + 2) f fd ["script"] (spLaw K) := by
  have F : Facts T K mg := ⟨c, h, X, Gn⟩
  obtain ⟨S, _, fd, FD⟩ := F.dat texts.ok (i := 98) (d := d98) rfl
  have hm : (("law", 1, 98) : Str × Nat × Nat) ∈ T.fns := by
    have : T.fns[T.fns.length - 1]? = some (("law", 1, 98) : Str × Nat × Nat) := by kernel_rfl
    exact List.mem_of_getElem? this
  have e := hfa.symm.trans (F.glo (List.all_eq_true.mp F.sees.fns _ hm))
  cases e
  have b := FunD.bindsA (ps := ["script"]) FD n98
  exact ⟨fd, fun s v => b s [v] rfl, fun base _ _ => law_fn F texts 40 (d := d98) (i := 98) (x := "script") (fs := body) rfl rfl (r98 _) (fun W a ls H Q hl hS hQ => run_law rfl W a ls H Q hl hS hQ) fd FD⟩
end K75
end FP
open PySem PySem.W PySem.Calls PyProof.Rows
theorem PySem.Challenge.cw_fingercounts_k75_chances_by_hand_and_ref_holds : PySem.Challenge.rw_fingercounts_k75_chances_by_hand_and_ref.Holds := by
  w_on; o_law
  refine HandSHeadRun.head_any (r := FP.K75.R) (q := view FP.K75.R.prog [119]) (H := FP.K75.hk) (ob := FP.K75.ob) (M := 8000) (loose := FP.K75.loose) (d := HandSHeadRun.topDef FP.K75.R.prog 119) (kwd := []) FP.K75.ob_eq
    (by kernel_rfl) (fun s => by kernel_rfl) FP.K75.run (by kernel_rfl) (by kernel_rfl) (by kernel_rfl) (by rfl) (by first | assumption | decide +kernel) (by decide +kernel) ⟨rfl, rfl, rfl, rfl, rfl, by decide +kernel⟩ ?hw ?hc
  case hw => w_witness2
  case hc =>
    refine FP.walkW (l := PySem.Challenge.rw_fingercounts_k75_chances_by_hand_and_ref) (n := 63) (k := 2 * 40 + 2) (x := "script") (C := fun w => L2.CX (PySem.Challenge.rw_fingercounts_k75_chances_by_hand_and_ref).prog w) rfl (by decide) (by kernel_rfl) ⟨rfl, by decide, by decide⟩ ?F (fun _ _ _ _ _ z => FP.cx_none z)
    intro w mg fa h Y G hmg0
    obtain ⟨K, KX, c⟩ := Y
    have hmg : mg ("law" : PySem.Str) = some (.ref fa) := by
      have e : (HandSHeadRun.topDef FP.K75.R.prog 119).name = ("law" : PySem.Str) := by kernel_rfl
      rw [← e]
      exact hmg0
    obtain ⟨fd, hb, hF⟩ := FP.K75.facts (P := (PySem.Challenge.rw_fingercounts_k75_chances_by_hand_and_ref).prog) (w := w) KX G hmg c
    exact ⟨K, fd, FP.spLaw K, KX, hb, fun H a ls hl hS => ⟨a, ls, hl, rfl, hS, fun _ => rfl⟩, hF⟩
