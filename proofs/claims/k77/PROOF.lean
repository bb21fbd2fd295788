import PyProof.Rows.All
import Wide.All
import OpenK.AllK
import Wide.FinOn
import PySem.Challenge.RW_seenbefore_k77_streams_written_and_read
import PyProof.P3Statements
import PyProof.ReprReads
import PySem.Syntax
import PyProof.Rows.StrIntSpec
import KE.IntTextText
import KE.KIntText
import HandS.ForMost
import HandS.ForExc
import HandS.IsInst
import HandS.Conv
import HandS.Zip
import HandS.Walk
import HandS.Deep
import HandS.DictTup
import HandS.SortKw
import HandS.TupLe
import HandS.TupAny
import HandS.Style
import HandS.TryMany
import HandS.Lambda
import HandS.Nested
import HandS.WideMore
import HandS.Defaults
import HandS.TupMul
import PyProof.NeKinds
import PyProof.DictMoreH
import HandS.Text
import HandS.Iter
import KE.KDictCopyH
import KE.IntTextLaws
import HandS.RaiseMore
import PyProof.ReprLen
import HandS.ExcInit
import HandS.ExcField
import HandS.FStr
import KE.KDictWalk
import HandS.More
import HandS.NamedTupGet
import PyProof.ReprRoads
import HandS.HeadHook2
import HandS.Ends
import HandS.HeadEnd
import PyProof.FitsInt
import HandS.Head0
import HandS.Head1
import HandS.Head2
import KE.KExcInit
import KE.KStateDown
import Lean
import HandS.WordsExc
import HandS.HeadHook1
section -- Core
set_option linter.all false
/-! # A small interpreter for the tongue that the laws use: values without addresses, a store of lists, dicts and instances -/
namespace Sv
open PySem (Str PyData)

/-- a value: what cannot change stands in it, what can change is a place of the store -/
inductive D where
  | non
  | bl (b : Bool)
  | int (i : Int)
  | str (s : Str)
  | tup (xs : List D)
  | ref (l : Nat)
  deriving Inhabited, Repr

mutual
def D.beq : D → D → Bool
  | .non, .non => true
  | .bl a, .bl b => a == b
  | .int a, .int b => a == b
  | .str a, .str b => a == b
  | .tup a, .tup b => D.beqs a b
  | .ref a, .ref b => a == b
  | _, _ => false
def D.beqs : List D → List D → Bool
  | [], [] => true
  | a :: as, b :: bs => D.beq a b && D.beqs as bs
  | _, _ => false
end
mutual
theorem D.beq_iff : ∀ (a b : D), D.beq a b = true ↔ a = b
  | .non, b => by cases b <;> simp [D.beq]
  | .bl a, b => by cases b <;> simp [D.beq]
  | .int a, b => by cases b <;> simp [D.beq]
  | .str a, b => by cases b <;> simp [D.beq]
  | .tup a, b => by
    cases b with
    | tup b => simp only [D.beq, D.tup.injEq]; exact D.beqs_iff a b
    | _ => simp [D.beq]
  | .ref a, b => by cases b <;> simp [D.beq]
theorem D.beqs_iff : ∀ (a b : List D), D.beqs a b = true ↔ a = b
  | [], b => by cases b <;> simp [D.beqs]
  | a :: as, b => by
    cases b with
    | nil => simp [D.beqs]
    | cons b bs => simp only [D.beqs, Bool.and_eq_true, D.beq_iff a b, D.beqs_iff as bs, List.cons.injEq]
end
instance : DecidableEq D := fun a b => decidable_of_iff (D.beq a b = true) (D.beq_iff a b)
inductive O where
  | lst (xs : List D)
  | dct (kvs : List (D × D)) (lk : Bool)
  | ins (c : Nat) (fs : List (Nat × D))
  deriving Inhabited, Repr, DecidableEq

abbrev Sto := List O
abbrev Env := List (Option D)

inductive R (α : Type) where
  | ok (a : α) (s : Sto)
  | ex (c : Nat) (v : List D) (s : Sto)
  | bad
  deriving Repr

def R.bind {α β : Type} : R α → (α → Sto → R β) → R β
  | .ok a s, f => f a s
  | .ex c v s, _ => .ex c v s
  | .bad, _ => .bad
/-- an error is not an answer here -/
def R.noex {α : Type} : R α → R α
  | .ok a s => .ok a s
  | .ex _ _ _ => .bad
  | .bad => .bad
/-- an answer that changes nothing -/
def R.of {α : Type} (o : Option α) (s : Sto) : R α := match o with
  | some a => .ok a s
  | none => .bad


/-! ### looks at the store -/
/-- the whole store: a frozen part, a living one -/
def look (fr lv : Sto) (l : Nat) : Option O := (fr ++ lv)[l]?
def listAt (fr lv : Sto) : D → Option (List D)
  | .ref l => match look fr lv l with
    | some (.lst xs) => some xs
    | _ => none
  | _ => none
/-- a list that lives -/
def liveL (fr lv : Sto) : D → Option (List D)
  | .ref l => if fr.length ≤ l then listAt fr lv (.ref l) else none
  | _ => none
/-- the items of a tuple, of a list -/
def itemsOf (fr lv : Sto) : D → Option (List D)
  | .tup xs => some xs
  | d => listAt fr lv d
def dictAt (fr lv : Sto) : D → Option (List (D × D))
  | .ref l => match look fr lv l with
    | some (.dct kvs _) => some kvs
    | _ => none
  | _ => none
/-- a living object is written -/
def put (fr lv : Sto) (l : Nat) (o : O) : Option Sto :=
  if fr.length ≤ l ∧ l < fr.length + lv.length then some (lv.set (l - fr.length) o) else none
/-- a new object, its place -/
def new (fr lv : Sto) (o : O) : R D := .ok (.ref (fr.length + lv.length)) (lv ++ [o])

def lineMax : Nat := 1000000
def newL (fr lv : Sto) (xs : List D) : R D := if xs.length ≤ lineMax then new fr lv (.lst xs) else .bad
def newT (lv : Sto) (xs : List D) : R D := if xs.length ≤ lineMax then .ok (.tup xs) lv else .bad

mutual
/-- all places that are named stand before n -/
def D.old (n : Nat) : D → Bool
  | .ref l => decide (l < n)
  | .tup xs => D.olds n xs
  | _ => true
def D.olds (n : Nat) : List D → Bool
  | [] => true
  | x :: xs => D.old n x && D.olds n xs
end
/-- a key of a dict: ints, texts, tuples of such -/
def D.key : Nat → D → Bool
  | _, .int _ => true
  | _, .str s => s.cps.all (· < 0x110000)
  | n + 1, .tup xs => xs.all (D.key n)
  | _, _ => false
def keyDepth : Nat := 6
def D.isTup : D → Bool
  | .tup _ => true
  | _ => false
/-! ### equality, order -/
/-- data as a whole, lists read out of the store -/
def pd (fr lv : Sto) : Nat → D → Option PyData
  | _, .non => some .none
  | _, .bl b => some (.bool b)
  | _, .int i => some (.int i)
  | _, .str s => if s.cps.all (· < 0x110000) then some (.str s) else none
  | n + 1, .tup xs => (xs.mapM (pd fr lv n)).map .tuple
  | n + 1, .ref l => match look fr lv l with
    | some (.lst xs) => (xs.mapM (pd fr lv n)).map .list
    | _ => none
  | _, _ => none
def pdDepth : Nat := 24
/-- a dict (true) or a list: is it empty -/
def emptyL (fr lv : Sto) : D → Option (Bool × Bool)
  | .ref l => match look fr lv l with
    | some (.lst xs) => some (false, xs.isEmpty)
    | some (.dct kvs _) => some (true, kvs.isEmpty)
    | _ => none
  | _ => none
def eqD (fr lv : Sto) (a b : D) : Option Bool := match a, b with
  | .int i, .int j => some (i == j)
  | .str x, .str y => some (x == y)
  | _, _ => match emptyL fr lv a, emptyL fr lv b with
    | some (d, x), some (e, y) => if d == e ∧ (x ∨ y) then some (x && y) else (match pd fr lv pdDepth a, pd fr lv pdDepth b with
      | some x, some y => some (x.eqv y)
      | _, _ => none)
    | _, _ => match pd fr lv pdDepth a, pd fr lv pdDepth b with
      | some x, some y => some (x.eqv y)
      | _, _ => none
mutual
def ltP : PyData → PyData → Option Bool
  | .int i, .int j => some (decide (i < j))
  | .str x, .str y => some (decide (x.cps.toList < y.cps.toList))
  | .tuple xs, .tuple ys => ltPs xs ys
  | _, _ => none
def ltPs : List PyData → List PyData → Option Bool
  | [], [] => some false
  | [], _ :: _ => some true
  | _ :: _, [] => some false
  | x :: xs, y :: ys => match ltPs xs ys with
    | some b => if x.eqv y then some b else ltP x y
    | none => none
end
/-- .. of lists, at the top -/
def ltK : PyData → PyData → Option Bool
  | .list xs, .list ys => ltPs xs ys
  | x, y => ltP x y
def ltD (fr lv : Sto) (a b : D) : Option Bool := match a, b with
  | .int i, .int j => some (decide (i < j))
  | _, _ => match pd fr lv pdDepth a, pd fr lv pdDepth b with
    | some x, some y => ltP x y
    | _, _ => none

/-! ### dicts -/
def kvIdx (kvs : List (D × D)) (k : D) : Option Nat := kvs.findIdx? fun p => decide (p.1 = k)
def kvGet (kvs : List (D × D)) (k : D) : Option D := (kvIdx kvs k).bind fun j => kvs[j]?.map (·.2)
def kvPut (kvs : List (D × D)) (k v : D) : List (D × D) := match kvIdx kvs k with
  | some j => kvs.modify j fun p => (p.1, v)
  | none => kvs ++ [(k, v)]
def kvDel (kvs : List (D × D)) (k : D) : List (D × D) := match kvIdx kvs k with
  | some j => kvs.eraseIdx j
  | none => kvs
/-- entry after entry -/
def putAll : List (D × D) → List (D × D) → Option (List (D × D))
  | kvs, [] => some kvs
  | kvs, p :: r => if D.key keyDepth p.1 then putAll (kvPut kvs p.1 p.2) r else none
/-- an unlocked dict that lives, its entries -/
def dictW (fr lv : Sto) : D → Option (Nat × List (D × D))
  | .ref l => match look fr lv l with
    | some (.dct kvs false) => some (l, kvs)
    | _ => none
  | _ => none
def listW (fr lv : Sto) : D → Option (Nat × List D)
  | .ref l => match look fr lv l with
    | some (.lst xs) => some (l, xs)
    | _ => none
  | _ => none
def dictSet (fr lv : Sto) (d k v : D) : Option Sto := match dictW fr lv d with
  | some (l, kvs) => if D.key keyDepth k ∧ kvs.length < lineMax then put fr lv l (.dct (kvPut kvs k v) false) else none
  | none => none

/-! ### operators -/
inductive Bop where | add | sub | mul | fdiv | mod | pow
  deriving Repr, DecidableEq
inductive Cop where | eq | ne | lt | le | gt | ge | isin | notin | is | isnot
  deriving Repr, DecidableEq

def small (i : Int) : Bool := decide (-(2 ^ 64) < i ∧ i < 2 ^ 64)
def rep (xs : List D) (n : Nat) : List D := (List.replicate n xs).flatten
def bop (fr lv : Sto) : Bop → D → D → R D
  | .add, .int a, .int b => .ok (.int (a + b)) lv
  | .add, .str a, .str b => if a.length + b.length ≤ lineMax then .ok (.str (a ++ b)) lv else .bad
  | .add, .tup a, .tup b => if a.length + b.length ≤ lineMax then .ok (.tup (a ++ b)) lv else .bad
  | .add, a, b => match liveL fr lv a, liveL fr lv b with
    | some xs, some ys => if xs.length + ys.length ≤ lineMax then new fr lv (.lst (xs ++ ys)) else .bad
    | _, _ => .bad
  | .sub, .int a, .int b => .ok (.int (a - b)) lv
  | .mul, .int a, .int b => if small a || small b then .ok (.int (a * b)) lv else .bad
  | .mul, .str a, .int n => if 0 ≤ n ∧ n * a.length ≤ lineMax ∧ n ≤ lineMax then .ok (.str ⟨((List.replicate n.toNat a.cps.toList).flatten).toArray⟩) lv else .bad
  | .mul, .tup a, .int n => if a.isEmpty = true ∧ 0 ≤ n ∧ n ≤ 1000 then .ok (.tup a) lv else if 2 ≤ n ∧ n ≤ 1000 ∧ a.length ≤ 1000 then .ok (.tup (rep a n.toNat)) lv else .bad
  | .mul, a, .int n => match liveL fr lv a with
    | some xs => if 0 ≤ n ∧ n * xs.length ≤ lineMax ∧ n ≤ lineMax then new fr lv (.lst (rep xs n.toNat)) else .bad
    | none => .bad
  | .fdiv, .int a, .int b => if 0 < b ∧ b < 2 ^ 1000 then .ok (.int (a / b)) lv else .bad
  | .mod, .int a, .int b => if 0 < b then .ok (.int (a % b)) lv else .bad
  | .pow, .int a, .int b => if 0 ≤ b ∧ b ≤ 1000 ∧ small a then .ok (.int (a ^ b.toNat)) lv else .bad
  | _, _, _ => .bad
/-- x in a tuple, a list, a dict, a text -/
def isIn (fr lv : Sto) (x c : D) : Option Bool := match c with
  | .str z => match x with
    | .str y => if y.length = 1 then some (z.cps.toList.any fun q => y.cps.toList.any fun r => q == r) else none
    | _ => none
  | .tup ys => match pd fr lv pdDepth x, ys.mapM (pd fr lv pdDepth) with
    | some a, some bs => some (bs.any fun b => b.eqv a)
    | _, _ => none
  | _ => match listAt fr lv c, dictAt fr lv c with
    | some ys, _ => match pd fr lv pdDepth x, ys.mapM (pd fr lv pdDepth) with
      | some a, some bs => some (bs.any fun b => b.eqv a)
      | _, _ => none
    | none, some kvs => if D.key keyDepth x then some (kvGet kvs x).isSome else none
    | none, none => none
def isD : D → D → Option Bool
  | a, .non => some (match a with
    | .non => true
    | _ => false)
  | a, .bl b => some (match a with
    | .bl c => c == b
    | _ => false)
  | _, _ => none
def cop (fr lv : Sto) : Cop → D → D → Option Bool
  | .eq, a, b => eqD fr lv a b
  | .ne, a, b => (eqD fr lv a b).map (!·)
  | .lt, a, b => ltD fr lv a b
  | .gt, .int a, .int b => some (decide (b < a))
  | .le, .int a, .int b => some (decide (a ≤ b))
  | .le, .tup a, .tup b => match pd fr lv pdDepth (.tup a), pd fr lv pdDepth (.tup b) with
    | some x, some y => (ltP x y).map (· || x.eqv y)
    | _, _ => none
  | .ge, .int a, .int b => some (decide (b ≤ a))
  | .ge, .tup a, .tup b => match pd fr lv pdDepth (.tup a), pd fr lv pdDepth (.tup b) with
    | some x, some y => (ltP x y).map (!·)
    | _, _ => none
  | .isin, a, b => isIn fr lv a b
  | .notin, a, b => (isIn fr lv a b).map (!·)
  | .is, a, b => isD a b
  | .isnot, a, b => (isD a b).map (!·)
  | _, _, _ => none

/-! ### places of lists, slices -/
def atI {α : Type} (xs : List α) (i : Int) : Option α := if 0 ≤ i then xs[i.toNat]? else if -(xs.length : Int) ≤ i then xs[(i + xs.length).toNat]? else none
def clampI (n : Nat) (i : Int) : Nat := if i < 0 then (i + n).toNat else min i.toNat n
def cutL {α : Type} (xs : List α) (lo hi : Option Int) : List α :=
  (xs.take (match hi with
    | some j => clampI xs.length j
    | none => xs.length)).drop (match lo with
    | some i => clampI xs.length i
    | none => 0)
def intOf : D → Option Int
  | .int k => some k
  | _ => none
def idxD (fr lv : Sto) (o i : D) : Option D := match o with
  | .tup xs => (intOf i).bind fun k => atI xs k
  | .str z => if z.length ≤ lineMax then (intOf i).bind fun k => (atI z.cps.toList k).map fun c => .str ⟨#[c]⟩ else none
  | _ => match listAt fr lv o, dictAt fr lv o with
    | some xs, _ => (intOf i).bind fun k => atI xs k
    | none, some kvs => if D.key keyDepth i then kvGet kvs i else none
    | none, none => none
/-- sound for bounds within 2^62 -/
def okI : Option Int → Bool
  | none => true
  | some i => decide (-(2 ^ 62) < i ∧ i < 2 ^ 62)
def slcD (fr lv : Sto) (o : D) (lo hi : Option Int) : R D := if okI lo && okI hi then match o with
  | .tup xs => .ok (.tup (cutL xs lo hi)) lv
  | .str z => if z.length ≤ lineMax then .ok (.str ⟨(cutL z.cps.toList lo hi).toArray⟩) lv else .bad
  | _ => match listAt fr lv o with
    | some xs => new fr lv (.lst (cutL xs lo hi))
    | none => .bad
  else .bad

/-! ### sorting -/
/-- by insertion, stable: before the first greater one -/
def insB (lt : PyData → PyData → Bool) (p : PyData × D) : List (PyData × D) → List (PyData × D)
  | [] => [p]
  | q :: r => if lt p.1 q.1 then p :: q :: r else q :: insB lt p r
def sortB (lt : PyData → PyData → Bool) (ps : List (PyData × D)) : List (PyData × D) := ps.foldl (fun acc p => insB lt p acc) []
def ltB (x y : PyData) : Bool := (ltP x y).getD false
def allCmp (ks : List PyData) : Bool := ks.all fun x => ks.all fun y => (ltP x y).isSome
def ltBK (x y : PyData) : Bool := (ltK x y).getD false
def allCmpK (ks : List PyData) : Bool := ks.all fun x => ks.all fun y => (ltK x y).isSome
/-- items with their keys -/
def sorted (fr lv : Sto) (ks xs : List D) : Option (List D) := match ks.mapM (pd fr lv pdDepth) with
  | some ps => if allCmp ps then some ((sortB ltB (ps.zip xs)).map (·.2)) else none
  | none => none
/-- the first least one -/
def minB (lt : PyData → PyData → Bool) : PyData × D → List (PyData × D) → D
  | p, [] => p.2
  | p, q :: r => if lt q.1 p.1 then minB lt q r else minB lt p r
def minD (fr lv : Sto) (ks xs : List D) : Option D := match ks.mapM (pd fr lv pdDepth) with
  | some ps => if allCmpK ps then match ps.zip xs with
      | p :: r => some (minB ltBK p r)
      | [] => none
    else none
  | none => none
def maxB (lt : PyData → PyData → Bool) : PyData × D → List (PyData × D) → D
  | p, [] => p.2
  | p, q :: r => if lt p.1 q.1 then maxB lt q r else maxB lt p r
def maxD (fr lv : Sto) (ks xs : List D) : Option D := match ks.mapM (pd fr lv pdDepth) with
  | some ps => if allCmp ps then match ps.zip xs with
      | p :: r => some (maxB ltB p r)
      | [] => none
    else none
  | none => none

/-! ### texts -/
def digs (n : Nat) : List Nat := (Nat.toDigits 10 n).map Char.toNat
def strI (i : Int) : Str := ⟨((if i < 0 then [45] else []) ++ digs i.natAbs).toArray⟩
def strD : D → Option Str
  | .int i => if i.natAbs < 10 ^ 500 then some (strI i) else none
  | .str s => some s
  | _ => none
def splitL (sep : Nat) : List Nat → List (List Nat)
  | [] => [[]]
  | c :: r => if c = sep then [] :: splitL sep r else match splitL sep r with
    | w :: ws => (c :: w) :: ws
    | [] => [[c]]
def joinS (sep : Str) : List Str → Str
  | [] => ⟨#[]⟩
  | [x] => x
  | x :: r => x ++ sep ++ joinS sep r
def partMax : Nat := 100000
def catS : List Str → Str
  | [] => ⟨#[]⟩
  | x :: r => x ++ catS r
def strsOf : List D → Option (List Str)
  | [] => some []
  | .str s :: r => (strsOf r).map (s :: ·)
  | _ :: _ => none
/-- the number that a text of figures is, an own sign at most -/
def digitsNat (cs : List Nat) : Option Nat := if cs.isEmpty then none else if cs.all fun c => 48 ≤ c && c ≤ 57 then some (cs.foldl (fun a c => a * 10 + (c - 48)) 0) else none
def intS (z : Str) : Option Int := if z.length ≤ 640 then (match z.cps.toList with
  | 45 :: r => (digitsNat r).map fun (n : Nat) => -(n : Int)
  | cs => (digitsNat cs).map fun (n : Nat) => (n : Int)) else none

/-! ### built-ins -/
inductive Bi where | len | list | tuple | dict | sorted | set | setSort | abs | int | str | repr | all | sum | min | max | rng1 | rng2
  deriving Repr, DecidableEq
inductive Bm where | append | extend | pop | insert | index | get | setdefault | update | join | split
  deriving Repr, DecidableEq
inductive Ty where | tInt | tBool | tStr | tTuple
  deriving Repr, DecidableEq
def isT (fr lv : Sto) : D → Ty → Option Bool
  | .int _, .tInt => some true
  | .bl _, .tInt => some true
  | .bl _, .tBool => some true
  | .str _, .tStr => some true
  | .tup _, .tTuple => some true
  | .ref l, _ => match look fr lv l with
    | some _ => some false
    | none => none
  | _, _ => some false
def rngL (lo : Int) (n : Nat) : List D := (List.range n).map fun (k : Nat) => D.int (lo + (k : Int))
def rngD (a b : Int) : Option (List D) := if -(2 ^ 62) < a ∧ a < 2 ^ 62 ∧ -(2 ^ 62) < b ∧ b < 2 ^ 62 ∧ (b - a).toNat ≤ lineMax then some (rngL a (b - a).toNat) else none
/-- so many different data: the first of each class of equals -/
def distinct : List PyData → List PyData
  | [] => []
  | x :: r => x :: (distinct r).filter fun y => !(x.eqv y)
/-- each once -/
def dedup : List D → List D
  | [] => []
  | x :: r => x :: (dedup r).filter fun y => decide (y ≠ x)
def boolsOf : List D → Option (List Bool)
  | [] => some []
  | .bl b :: r => (boolsOf r).map (b :: ·)
  | _ :: _ => none
def intsOf : List D → Option (List Int)
  | [] => some []
  | .int b :: r => (intsOf r).map (b :: ·)
  | _ :: _ => none
/-- pairs out of a list of pairs -/
def pairsOf : List D → Option (List (D × D))
  | [] => some []
  | .tup [a, b] :: r => (pairsOf r).map ((a, b) :: ·)
  | _ :: _ => none
def lenD (fr lv : Sto) (d : D) : Option Int := match d with
  | .str z => if z.length ≤ lineMax then some z.length else none
  | _ => match itemsOf fr lv d, dictAt fr lv d with
    | some xs, _ => some xs.length
    | none, some kvs => some kvs.length
    | none, none => none
/-- what list(..), tuple(..), sorted(..) walk -/
def walkD (fr lv : Sto) (d : D) : Option (List D) := match itemsOf fr lv d, dictAt fr lv d with
  | some xs, _ => some xs
  | none, some kvs => some (kvs.map (·.1))
  | none, none => none
mutual
/-- no place of the store is named -/
def D.flat : D → Bool
  | .ref _ => false
  | .tup xs => D.flats xs
  | _ => true
def D.flats : List D → Bool
  | [] => true
  | x :: xs => D.flat x && D.flats xs
end
/-- data for repr: no dict but one at the top, its entries without places -/
def reprD (fr lv : Sto) (d : D) : Option PyData := match d with
  | .ref l => (match look fr lv l with
    | some (.dct kvs _) => (kvs.mapM fun (p : D × D) => if D.flat p.1 && D.flat p.2 then (match pd fr lv pdDepth p.1, pd fr lv pdDepth p.2 with
      | some a, some b => some (a, b)
      | _, _ => none) else none).map .dict
    | _ => pd fr lv pdDepth d)
  | .tup _ => pd fr lv pdDepth d
  | .int _ => pd fr lv pdDepth d
  | _ => none
def bi (rp : PyData → Str) (fr lv : Sto) : Bi → List D → R D
  | .len, [d] => .of ((lenD fr lv d).map .int) lv
  | .list, [d] => match walkD fr lv d with
    | some xs => newL fr lv xs
    | none => .bad
  | .tuple, [d] => match itemsOf fr lv d with
    | some xs => newT lv xs
    | none => .bad
  | .dict, [d] => match dictAt fr lv d, itemsOf fr lv d with
    | some kvs, _ => new fr lv (.dct kvs false)
    | none, some xs => match pairsOf xs with
      | some ps => match putAll [] ps with
        | some kvs => if ps.length ≤ lineMax then new fr lv (.dct kvs false) else .bad
        | none => .bad
      | none => .bad
    | none, none => .bad
  | .sorted, [d] => match walkD fr lv d with
    | some xs => match sorted fr lv xs xs with
      | some ys => newL fr lv ys
      | none => .bad
    | none => .bad
  | .abs, [.int i] => .ok (.int (if i < 0 then -i else i)) lv
  | .int, [.int i] => .ok (.int i) lv
  | .int, [.bl b] => .ok (.int (if b then 1 else 0)) lv
  | .int, [.str z] => .of ((intS z).map .int) lv
  | .str, [d] => .of ((strD d).map .str) lv
  | .repr, [d] => match reprD fr lv d with
    | some x => if x.showable && decide (x.shown.length ≤ lineMax) then .ok (.str x.shown) lv else .bad
    | none => .bad
  | .all, [d] => match listAt fr lv d with
    | some xs => .of ((boolsOf xs).map fun bs => .bl (bs.all id)) lv
    | none => .bad
  | .sum, [d] => match listAt fr lv d with
    | some xs => .of ((intsOf xs).map fun bs => .int bs.sum) lv
    | none => .bad
  | .min, [.int a, .int b] => .ok (.int (if b < a then b else a)) lv
  | .max, [.int a, .int b] => .ok (.int (if b > a then b else a)) lv
  | .min, [d] => match itemsOf fr lv d with
    | some xs => .of (minD fr lv xs xs) lv
    | none => .bad
  | .max, [d] => match itemsOf fr lv d with
    | some xs => .of (maxD fr lv xs xs) lv
    | none => .bad
  | .rng1, [.int n] => match rngD 0 n with
    | some xs => newL fr lv xs
    | none => .bad
  | .rng2, [.int a, .int b] => match rngD a b with
    | some xs => newL fr lv xs
    | none => .bad
  | .set, [d] => match itemsOf fr lv d with
    | some xs => match xs.mapM (pd fr lv pdDepth) with
      | some ps => .ok (.int (distinct ps).length) lv
      | none => .bad
    | none => .bad
  | .setSort, [d] => match itemsOf fr lv d with
    | some xs => if xs.all (D.key keyDepth) then match sorted fr lv (dedup xs) (dedup xs) with
      | some ys => newL fr lv ys
      | none => .bad
      else .bad
    | none => .bad
  | _, _ => .bad
def bm (fr lv : Sto) : Bm → D → List D → R D
  | .append, o, [x] => match listW fr lv o with
    | some (l, xs) => if xs.length < lineMax then (match put fr lv l (.lst (xs ++ [x])) with
      | some s => .ok .non s
      | none => .bad) else .bad
    | none => .bad
  | .extend, o, [d] => match listW fr lv o, liveL fr lv d with
    | some (l, xs), some ys => if xs.length + ys.length ≤ lineMax ∧ o ≠ d then (match put fr lv l (.lst (xs ++ ys)) with
      | some s => .ok .non s
      | none => .bad) else .bad
    | _, _ => .bad
  | .insert, o, [.int i, x] => match listW fr lv o with
    | some (l, xs) => if xs.length < lineMax ∧ 0 ≤ i ∧ i ≤ xs.length then (match put fr lv l (.lst (xs.take i.toNat ++ x :: xs.drop i.toNat)) with
      | some s => .ok .non s
      | none => .bad) else .bad
    | none => .bad
  | .pop, o, [] => match listW fr lv o with
    | some (l, xs) => match xs.getLast? with
      | some x => (match put fr lv l (.lst xs.dropLast) with
        | some s => .ok x s
        | none => .bad)
      | none => .bad
    | none => .bad
  | .pop, o, [k] => match listW fr lv o, dictW fr lv o with
    | some (l, xs), _ => match k with
      | .int i => if 0 ≤ i then match xs[i.toNat]? with
        | some x => (match put fr lv l (.lst (xs.eraseIdx i.toNat)) with
          | some s => .ok x s
          | none => .bad)
        | none => .bad else .bad
      | _ => .bad
    | none, some (l, kvs) => if D.key keyDepth k then match kvGet kvs k with
      | some v => (match put fr lv l (.dct (kvDel kvs k) false) with
        | some s => .ok v s
        | none => .bad)
      | none => .bad else .bad
    | none, none => .bad
  | .index, o, [x] => match o with
    | .str z => match x with
      | .str y => if y.length = 1 then .of ((z.cps.toList.findIdx? fun q => y.cps.toList.any fun r => q == r).map fun i => .int i) lv else .bad
      | _ => .bad
    | _ => match itemsOf fr lv o with
      | some ys => match pd fr lv pdDepth x, ys.mapM (pd fr lv pdDepth) with
        | some a, some bs => .of ((bs.findIdx? fun b => b.eqv a).map fun i => .int i) lv
        | _, _ => .bad
      | none => .bad
  | .get, o, [k, d] => match dictAt fr lv o with
    | some kvs => if D.key keyDepth k then .ok ((kvGet kvs k).getD d) lv else .bad
    | none => .bad
  | .setdefault, o, [k, d] => match dictW fr lv o with
    | some (l, kvs) => if D.key keyDepth k ∧ kvs.length < lineMax ∧ fr.length ≤ l then match kvGet kvs k with
      | some v => .ok v lv
      | none => match dictSet fr lv o k d with
        | some s => .ok d s
        | none => .bad
      else .bad
    | none => .bad
  | .update, o, [d] => match dictW fr lv o, dictAt fr lv d with
    | some (l, kvs), some more => if kvs.length + more.length ≤ lineMax ∧ o ≠ d then (match putAll kvs more with
      | some all => (match put fr lv l (.dct all false) with
        | some s => .ok .non s
        | none => .bad)
      | none => .bad) else .bad
    | _, _ => .bad
  | .join, .str sep, [d] => match itemsOf fr lv d with
    | some xs => match strsOf xs with
      | some zs => if (zs.map (·.length)).sum + zs.length * sep.length ≤ lineMax then .ok (.str (joinS sep zs)) lv else .bad
      | none => .bad
    | none => .bad
  | .split, .str z, [.str sep] => match sep.cps.toList with
    | [c] => if c < 256 ∧ z.length ≤ 30000 then newL fr lv ((splitL c z.cps.toList).map fun w => .str ⟨w.toArray⟩) else .bad
    | _ => .bad
  | _, _, _ => .bad

/-! ### the tongue -/
mutual
inductive C where
  | con (d : D)
  | var (i : Nat)
  | tup (es : List C)
  | lst (es : List C)
  /-- keys and values by turns -/
  | dct (kvs : List C)
  | neg (a : C)
  | not (a : C)
  | bin (op : Bop) (a b : C)
  | cmp (op : Cop) (a b : C)
  | chain (p q : Cop) (a b c : C)
  | and (a b : C)
  | or (a b : C)
  | ifx (t a b : C)
  | idx (o i : C)
  | slc (o : C) (lo hi : Option C)
  | rev (o : C)
  | att (o : C) (f : Nat)
  /-- a written dict of texts, asked -/
  | tab (kvs : List (Str × D)) (i : C)
  | call (f : Nat) (es : List C)
  /-- with names: the arguments as written, and which of them each parameter takes -/
  | callk (f : Nat) (ix : List Nat) (es : List C)
  | mkk (c : Nat) (ix : List Nat) (es : List C)
  | mthk (m : Nat) (ix : List Nat) (o : C) (es : List C)
  | callv (i : Nat) (es : List C)
  | mk (c : Nat) (es : List C)
  | mth (m : Nat) (o : C) (es : List C)
  | bi (b : Bi) (es : List C)
  | bm (m : Bm) (o : C) (es : List C)
  | isi (o : C) (t : Ty)
  | seqL (it : I)
  | seqT (it : I)
  /-- x or y, by the truth of a tuple -/
  | orT (a b : C)
  | lc (e : C) (own : List Nat) (t : T) (it : I) (cond : Option C)
  | dc (k v : C) (own : List Nat) (t : T) (it : I)
  | callF (f : Nat) (es : List C) (g : Gf)
  | srt (o : C) (g : Gf)
  | mnk (o : C) (g : Gf)
  | mnl (o : C)
  /-- the field of the error in hand; is it one of these -/
  | exf
  | exi (cs : List Nat)
  | fst (ps : List C)
  | fmt (a : C)
/-- a def by name, a lambda (its number, what it captures, its parameters, its slots, its body), a parameter that is a def -/
inductive Gf where
  | nam (f : Nat)
  | lam (f : Nat) (caps : List Nat) (np ns : Nat) (body : C)
  | slot (j : Nat)
inductive I where
  | val (e : C)
  | rng1 (b : C)
  | rng2 (a b : C)
  | enm (e : C)
  /-- strict or not -/
  | zip (st : Bool) (a b : C)
  | itm (e : C)
inductive T where
  | nm (i : Nat)
  | tp (ts : List T)
  | sub (o i : C)
  | at (o : C) (f : Nat)
end
instance : Inhabited C := ⟨.con .non⟩

inductive S where
  | expr (e : C)
  | asg (t : T) (e : C)
  /-- names exchanged -/
  | asgp (is : List Nat) (es : List C)
  /-- o.f = e -/
  | asf (o : C) (f : Nat) (e : C)
  | aug (i : Nat) (op : Bop) (e : C)
  | ifs (c : C) (a b : List S)
  | whl (c : C) (b : List S)
  | loop (t : T) (it : I) (b : List S)
  | ret (e : C)
  | retN
  | raise (c : Nat) (es : List C)
  | tryx (b : List S) (hs : List (Nat × Option Nat × List S))
  | pass
  | brk
  | cnt
instance : Inhabited S := ⟨.pass⟩

inductive Fl where | nx | rt (d : D) | bk | ct
  deriving Repr
/-- behind a statement -/
inductive RS where
  | ok (ρ : Env) (f : Fl) (s : Sto)
  | ex (c : Nat) (v : List D) (ρ : Env) (s : Sto)
  | bad

/-- what is around: the defs (by number), repr, the turns that a while may take -/
abbrev FV := Nat × List D
structure Orc where
  call : Nat → List D → List FV → Sto → Sto → R D
  rp : PyData → Str
  turns : Nat
  /-- is there such a def -/
  has : Nat → Bool
  /-- the own errors -/
  exs : List Nat
/-- a method's number, of its class's and its own -/
def mid (c m : Nat) : Nat := 1000 + 100 * c + m
/-- __len__, __init__ -/
def mLen : Nat := 0
def mInit : Nat := 1

def varD (ρ : Env) (i : Nat) : Option D := match ρ[i]? with
  | some (some d) => some d
  | _ => none
def putF (f : Nat) (v : D) : List (Nat × D) → List (Nat × D)
  | [] => [(f, v)]
  | (g, x) :: r => if g = f then (f, v) :: r else (g, x) :: putF f v r
def insAt (fr lv : Sto) : D → Option (Nat × Nat × List (Nat × D))
  | .ref l => match look fr lv l with
    | some (.ins c fs) => some (l, c, fs)
    | _ => none
  | _ => none
def attD (fr lv : Sto) (d : D) (f : Nat) : Option D := match insAt fr lv d with
  | some (_, _, fs) => fs.lookup f
  | none => none
def wipe : List Nat → Env → Env
  | [], ρ => ρ
  | v :: vs, ρ => (wipe vs ρ).set v none
def asBool (d : D) (s : Sto) : R Bool := match d with
  | .bl b => .ok b s
  | _ => .bad
/-- what a walk leans on: lists that stay as they are, a dict that is locked -/
inductive Wt where | none | lists (ls : List (Nat × List D)) | dict (l : Nat) (kvs : List (D × D))
def listWt (d : D) (xs : List D) : Wt := match d with
  | .ref l => .lists [(l, xs)]
  | _ => .none
def Wt.join : Wt → Wt → Wt
  | .none, w => w
  | w, .none => w
  | .lists a, .lists b => .lists (a ++ b)
  | w, _ => w
/-- a dict, where it stands -/
def dictL (fr lv : Sto) : D → Option (Nat × List (D × D))
  | .ref l => match look fr lv l with
    | some (.dct kvs _) => some (l, kvs)
    | _ => none
  | _ => none
/-- what a value gives to a walk -/
def valI (fr lv : Sto) (d : D) : R (List D × Wt) := match itemsOf fr lv d, dictL fr lv d with
  | some xs, _ => .ok (xs, listWt d xs) lv
  | none, some (l, kvs) => .ok (kvs.map (·.1), .dict l kvs) lv
  | none, none => .bad
/-- range(a, b) -/
def rngI (a b : D) (s : Sto) : R (List D × Wt) := match a with
  | .int m => (match b with
    | .int n => (match rngD m n with
      | some xs => .ok (xs, .none) s
      | none => .bad)
    | _ => .bad)
  | _ => .bad
def lockS (fr lv : Sto) : Wt → Sto
  | .dict l kvs => (put fr lv l (.dct kvs true)).getD lv
  | _ => lv
/-- is the dict locked already -/
def wasLocked (fr lv : Sto) : Wt → Bool
  | .dict l _ => match look fr lv l with
    | some (.dct _ b) => b
    | _ => false
  | _ => false
def unlockS (fr lv : Sto) (was : Bool) : Wt → Sto
  | .dict l kvs => if was then lv else (put fr lv l (.dct kvs false)).getD lv
  | _ => lv
def stays (fr lv : Sto) : Wt → Bool
  | .none => true
  | .lists ls => ls.all fun p => decide (look fr lv p.1 = some (.lst p.2))
  | .dict l kvs => match look fr lv l with
    | some (.dct ks _) => decide (ks = kvs)
    | _ => false
/-- text, tuple, list, dict -/
def kindD (fr lv : Sto) : D → Nat
  | .str _ => 1
  | .tup _ => 2
  | .ref l => (match look fr lv l with
    | some (.lst _) => 3
    | some (.dct _ _) => 4
    | _ => 0)
  | _ => 0
/-- the kinds that have this method -/
def okBm : Bm → Nat → Bool
  | .append, k => k == 3
  | .extend, k => k == 3
  | .insert, k => k == 3
  | .pop, k => k == 3 || k == 4
  | .index, k => k == 1 || k == 2 || k == 3
  | .join, k => k == 1
  | .split, k => k == 1
  | _, k => k == 4
/-- the class of an instance that has this method -/
def clsAt (G : Orc) (fr lv : Sto) (d : D) (m : Nat) : Option Nat := match insAt fr lv d with
  | some (_, c, _) => if G.has (mid c m) then some c else none
  | none => none
/-- a new instance -/
def mkC (G : Orc) (fr : Sto) (c : Nat) (ds : List D) (s : Sto) : R D :=
  (G.call (mid c mInit) (.ref (fr.length + s.length) :: ds) [] fr (s ++ [.ins c []])).bind fun d s2 => match d with
    | .non => .ok (.ref (fr.length + s.length)) s2
    | _ => .bad
/-- an own len -/
def lenR (G : Orc) (fr lv : Sto) (d : D) : R D := match insAt fr lv d with
  | some _ => (match clsAt G fr lv d mLen with
    | some c => (G.call (mid c mLen) [d] [] fr lv).bind fun n s => match n with
      | .int i => if 0 ≤ i ∧ i ≤ 1000000 then .ok (.int i) s else .bad
      | _ => .bad
    | none => .bad)
  | none => .of ((lenD fr lv d).map .int) lv
/-- a key for each item -/
def keysBy (G : Orc) (fr : Sto) (key : FV) : List D → Sto → R (List D)
  | [], lv => .ok [] lv
  | x :: r, lv => (G.call key.1 (x :: key.2) [] fr lv).bind fun k s => (keysBy G fr key r s).bind fun ks s2 => .ok (k :: ks) s2
def lensOf (fr lv : Sto) (xs : List D) : Option (List D) := xs.mapM fun x => (lenD fr lv x).map .int
def capsOf (ρ : Env) (is : List Nat) : Option (List D) := is.mapM (varD ρ)
def defOf (φ : List FV) (ρ : Env) : Gf → Option FV
  | .nam f => some (f, [])
  | .lam f caps _ _ _ => (capsOf ρ caps).map fun cs => (f, cs)
  | .slot j => φ[j]?
def enumL (xs : List D) : List D := xs.zipIdx.map fun p => .tup [.int p.2, p.1]
def zipL (xs ys : List D) : List D := (xs.zip ys).map fun p => .tup [p.1, p.2]

def byTwo : List D → Option (List (D × D))
  | [] => some []
  | a :: b :: r => (byTwo r).map ((a, b) :: ·)
  | [_] => none
mutual
/-- names alone -/
def asgN (ρ : Env) : T → D → Option Env
  | .nm i, d => if i < ρ.length then some (ρ.set i (some d)) else none
  | .tp ts, d => match d with
    | .tup ds => asgNs ρ ts ds
    | _ => none
  | .sub _ _, _ => none
  | .at _ _, _ => none
def asgNs (ρ : Env) : List T → List D → Option Env
  | [], [] => some ρ
  | t :: ts, d :: ds => match asgN ρ t d with
    | some ρ1 => asgNs ρ1 ts ds
    | none => none
  | _, _ => none
end
/-- turn by turn; what is made, in order -/
def lcL {α : Type} (body : D → Sto → R (Option α)) (ok : Sto → Bool) : List D → Sto → R (List α)
  | [], s => .ok [] s
  | d :: ds, s => (body d s).bind fun y s => if ok s then (lcL body ok ds s).bind fun ys s => .ok (match y with
    | some y => y :: ys
    | none => ys) s else .bad
mutual
def ev (G : Orc) (fr : Sto) (φ : List FV) (η : Option (Nat × List D)) : C → Env → Sto → R D
  | .con d, _, lv => .ok d lv
  | .var i, ρ, lv => .of (varD ρ i) lv
  | .tup es, ρ, lv => (evs G fr φ η es ρ lv).bind fun ds s => newT s ds
  | .lst es, ρ, lv => (evs G fr φ η es ρ lv).bind fun ds s => newL fr s ds
  | .dct es, ρ, lv => (evs G fr φ η es ρ lv).bind fun ds s => match byTwo ds with
      | some ps => (match putAll [] ps with
        | some kvs => if ps.length ≤ 15 then new fr s (.dct kvs false) else .bad
        | none => .bad)
      | none => .bad
  | .neg a, ρ, lv => (ev G fr φ η a ρ lv).bind fun d s => match d with
      | .int i => .ok (.int (-i)) s
      | _ => .bad
  | .not a, ρ, lv => (ev G fr φ η a ρ lv).bind fun d s => (asBool d s).bind fun b s => .ok (.bl (!b)) s
  | .bin op a b, ρ, lv => (ev G fr φ η a ρ lv).bind fun x s => (ev G fr φ η b ρ s).bind fun y s => bop fr s op x y
  | .cmp op a b, ρ, lv => (ev G fr φ η a ρ lv).bind fun x s => (ev G fr φ η b ρ s).bind fun y s => .of ((cop fr s op x y).map .bl) s
  | .chain p q a b c, ρ, lv => (ev G fr φ η a ρ lv).bind fun x s => (ev G fr φ η b ρ s).bind fun y s => match cop fr s p x y with
      | some true => (ev G fr φ η c ρ s).bind fun z s => .of ((cop fr s q y z).map .bl) s
      | some false => .ok (.bl false) s
      | none => .bad
  | .and a b, ρ, lv => (ev G fr φ η a ρ lv).bind fun x s => (asBool x s).bind fun c s => if c then ev G fr φ η b ρ s else .ok (.bl false) s
  | .or a b, ρ, lv => (ev G fr φ η a ρ lv).bind fun x s => (asBool x s).bind fun c s => if c then .ok (.bl true) s else ev G fr φ η b ρ s
  | .ifx t a b, ρ, lv => (ev G fr φ η t ρ lv).bind fun x s => (asBool x s).bind fun c s => if c then ev G fr φ η a ρ s else ev G fr φ η b ρ s
  | .idx o i, ρ, lv => (ev G fr φ η o ρ lv).bind fun x s => (ev G fr φ η i ρ s).bind fun y s => .of (idxD fr s x y) s
  | .slc o lo hi, ρ, lv => (ev G fr φ η o ρ lv).bind fun x s => (evo G fr φ η lo ρ s).bind fun a s => (evo G fr φ η hi ρ s).bind fun b s => slcD fr s x a b
  | .rev o, ρ, lv => (ev G fr φ η o ρ lv).bind fun x s => match listAt fr s x with
      | some xs => newL fr s xs.reverse
      | none => .bad
  | .att o f, ρ, lv => (ev G fr φ η o ρ lv).bind fun x s => .of (attD fr s x f) s
  | .tab kvs i, ρ, lv => (ev G fr φ η i ρ lv).bind fun x s => match x with
      | .str z => .of (kvs.lookup z) s
      | _ => .bad
  | .call f es, ρ, lv => (evs G fr φ η es ρ lv).bind fun ds s => G.call f ds [] fr s
  | .callk f ix es, ρ, lv => (evs G fr φ η es ρ lv).bind fun ds s => match ix.mapM fun i => ds[i]? with
      | some as => G.call f as [] fr s
      | none => .bad
  | .mkk c ix es, ρ, lv => (evs G fr φ η es ρ lv).bind fun ds s => match ix.mapM fun i => ds[i]? with
      | some as => mkC G fr c as s
      | none => .bad
  | .mthk m ix o es, ρ, lv => (ev G fr φ η o ρ lv).bind fun x s => match clsAt G fr s x m with
      | some c => (evs G fr φ η es ρ s).bind fun ds s => match ix.mapM fun i => ds[i]? with
        | some as => G.call (mid c m) (x :: as) [] fr s
        | none => .bad
      | none => .bad
  | .callv i es, ρ, lv => (evs G fr φ η es ρ lv).bind fun ds s => match φ[i]? with
      | some g => G.call g.1 (ds ++ g.2) [] fr s
      | none => .bad
  | .callF f es g, ρ, lv => (evs G fr φ η es ρ lv).bind fun ds s => match defOf φ ρ g with
      | some g => G.call f ds [g] fr s
      | none => .bad
  | .mk c es, ρ, lv => (evs G fr φ η es ρ lv).bind fun ds s => mkC G fr c ds s
  | .mth m o es, ρ, lv => (ev G fr φ η o ρ lv).bind fun x s => match clsAt G fr s x m with
      | some c => (evs G fr φ η es ρ s).bind fun ds s => G.call (mid c m) (x :: ds) [] fr s
      | none => .bad
  | .bi b es, ρ, lv => (evs G fr φ η es ρ lv).bind fun ds s => match b, ds with
      | .len, [d] => lenR G fr s d
      | _, _ => Sv.bi G.rp fr s b ds
  | .bm m o es, ρ, lv => (ev G fr φ η o ρ lv).bind fun x s1 => if okBm m (kindD fr s1 x) then (evs G fr φ η es ρ s1).bind fun ds s => if kindD fr s x = kindD fr s1 x then Sv.bm fr s m x ds else .bad else .bad
  | .isi o t, ρ, lv => (ev G fr φ η o ρ lv).bind fun x s => .of ((isT fr s x t).map .bl) s
  | .seqL it, ρ, lv => (evI G fr φ η it ρ lv).bind fun p s => newL fr s p.1
  | .seqT it, ρ, lv => (evI G fr φ η it ρ lv).bind fun p s => newT s p.1
  | .orT a b, ρ, lv => (ev G fr φ η a ρ lv).bind fun x s => match x with
      | .tup [] => ev G fr φ η b ρ s
      | .tup _ => .ok x s
      | _ => .bad
  | .lc e own t it cond, ρ, lv => (evI G fr φ η it ρ lv).bind fun p s =>
      let was := wasLocked fr s p.2
      if !stays fr s p.2 then .bad else (lcL (fun d s => match asgN (wipe own ρ) t d with
        | some ρ1 => (match cond with
          | some c => (ev G fr [] η c ρ1 s).bind fun x s => asBool x s
          | none => R.ok true s).bind fun b s => if b then (ev G fr [] η e ρ1 s).bind fun y s => R.ok (some y) s else R.ok none s
        | none => .bad) (fun s => stays fr s p.2) p.1 (lockS fr s p.2)).noex.bind fun ys s => newL fr (unlockS fr s was p.2) ys
  | .dc k v own t it, ρ, lv => (evI G fr φ η it ρ lv).bind fun p s =>
      let was := wasLocked fr s p.2
      if !stays fr s p.2 then .bad else (lcL (fun d s => match asgN (wipe own ρ) t d with
        | some ρ1 => (ev G fr [] η k ρ1 s).bind fun x s => (ev G fr [] η v ρ1 s).bind fun y s => if D.key keyDepth x then R.ok (some (x, y)) s else .bad
        | none => .bad) (fun s => stays fr s p.2) p.1 (lockS fr s p.2)).noex.bind fun ys s =>
          if ys.length ≤ lineMax then (match putAll [] ys with
            | some kvs => new fr (unlockS fr s was p.2) (.dct kvs false)
            | none => .bad) else .bad
  | .srt o g, ρ, lv => (ev G fr φ η o ρ lv).bind fun x s => match defOf φ ρ g, walkD fr s x with
      | some f, some xs => (keysBy G fr f xs s).bind fun ks s2 => match sorted fr s2 ks xs with
        | some ys => newL fr s2 ys
        | none => .bad
      | _, _ => .bad
  | .mnk o g, ρ, lv => (ev G fr φ η o ρ lv).bind fun x s => match defOf φ ρ g, listAt fr s x with
      | some f, some xs => (keysBy G fr f xs s).bind fun ks s2 => .of (minD fr s2 ks xs) s2
      | _, _ => .bad
  | .mnl o, ρ, lv => (ev G fr φ η o ρ lv).bind fun x s => match listAt fr s x with
      | some xs => match lensOf fr s xs with
        | some ks => .of (minD fr s ks xs) s
        | none => .bad
      | none => .bad
  | .exf, _, lv => match η with
      | some (_, [v]) => .ok v lv
      | _ => .bad
  | .exi cs, _, lv => match η with
      | some (c, _) => .ok (.bl (cs.contains c)) lv
      | none => .bad
  | .fmt a, ρ, lv => (ev G fr φ η a ρ lv).bind fun d s => match strD d with
      | some z => if z.length ≤ partMax then .ok (.str z) s else .bad
      | none => .bad
  | .fst ps, ρ, lv => if ps.length ≤ 16 then (evs G fr φ η ps ρ lv).bind fun ds s => match strsOf ds with
      | some zs => .ok (.str (catS zs)) s
      | none => .bad
      else .bad
def evs (G : Orc) (fr : Sto) (φ : List FV) (η : Option (Nat × List D)) : List C → Env → Sto → R (List D)
  | [], _, lv => .ok [] lv
  | e :: es, ρ, lv => (ev G fr φ η e ρ lv).bind fun d s => (evs G fr φ η es ρ s).bind fun ds s => .ok (d :: ds) s
def evo (G : Orc) (fr : Sto) (φ : List FV) (η : Option (Nat × List D)) : Option C → Env → Sto → R (Option Int)
  | none, _, lv => .ok none lv
  | some e, ρ, lv => (ev G fr φ η e ρ lv).bind fun d s => match d with
    | .int i => .ok (some i) s
    | _ => .bad
def evI (G : Orc) (fr : Sto) (φ : List FV) (η : Option (Nat × List D)) : I → Env → Sto → R (List D × Wt)
  | .val e, ρ, lv => (ev G fr φ η e ρ lv).bind fun d s => match d with
    | .str z => .ok (z.cps.toList.map fun c => .str ⟨#[c]⟩, .none) s
    | _ => valI fr s d
  | .rng1 b, ρ, lv => (ev G fr φ η b ρ lv).bind fun d s => rngI (.int 0) d s
  | .rng2 a b, ρ, lv => (ev G fr φ η a ρ lv).bind fun x s => (ev G fr φ η b ρ s).bind fun d s => rngI x d s
  | .enm e, ρ, lv => (ev G fr φ η e ρ lv).bind fun d s => match itemsOf fr s d with
    | some xs => .ok (enumL xs, listWt d xs) s
    | none => .bad
  | .zip st a b, ρ, lv => (ev G fr φ η a ρ lv).bind fun x s => (ev G fr φ η b ρ s).bind fun y s => match itemsOf fr s x, itemsOf fr s y with
    | some xs, some ys => if !st || xs.length == ys.length then .ok (zipL xs ys, (listWt x xs).join (listWt y ys)) s else .bad
    | _, _ => .bad
  | .itm e, ρ, lv => (ev G fr φ η e ρ lv).bind fun d s => match dictL fr s d with
    | some (l, kvs) => .ok (kvs.map fun p => .tup [p.1, p.2], .dict l kvs) s
    | none => .bad
end
end Sv
end -- Core
section -- Exec
set_option linter.all false
/-! # Statements, runs, and from the text to the tongue -/
namespace Sv
open PySem (Str PyData)

/-- into any target -/
def asgSub (fr lv : Sto) (o i v : D) : Option Sto := match listW fr lv o with
  | some (l, xs) => match i with
    | .int k => if 0 ≤ k ∧ k < xs.length then put fr lv l (.lst (xs.set k.toNat v)) else none
    | _ => none
  | none => dictSet fr lv o i v
mutual
def asg (G : Orc) (fr : Sto) (φ : List FV) (η : Option (Nat × List D)) : T → D → Env → Sto → R Env
  | .nm i, d, ρ, lv => if i < ρ.length then .ok (ρ.set i (some d)) lv else .bad
  | .tp ts, d, ρ, lv => match d with
    | .tup ds => asgs G fr φ η ts ds ρ lv
    | _ => .bad
  | .sub o i, d, ρ, lv => (ev G fr φ η o ρ lv).bind fun x s => (ev G fr φ η i ρ s).bind fun y s => match asgSub fr s x y d with
    | some s2 => .ok ρ s2
    | none => .bad
  | .at _ _, _, _, _ => .bad
def asgs (G : Orc) (fr : Sto) (φ : List FV) (η : Option (Nat × List D)) : List T → List D → Env → Sto → R Env
  | [], [], ρ, lv => .ok ρ lv
  | t :: ts, d :: ds, ρ, lv => (asg G fr φ η t d ρ lv).bind fun ρ s => asgs G fr φ η ts ds ρ s
  | _, _, _, _ => .bad
end
def RS.of {α : Type} (x : R α) (ρ : Env) (f : α → Sto → RS) : RS := match x with
  | .ok a s => f a s
  | .ex c v s => .ex c v ρ s
  | .bad => .bad
def setAll : Env → List Nat → List D → Option Env
  | ρ, [], [] => some ρ
  | ρ, i :: is, d :: ds => if i < ρ.length then setAll (ρ.set i (some d)) is ds else none
  | _, _, _ => none
/-- behind a target: no error may come from it -/
def RS.ofT (x : R Env) (f : Env → Sto → RS) : RS := match x with
  | .ok ρ s => f ρ s
  | _ => .bad
/-- what follows, if nothing else is told -/
def RS.then (x : RS) (f : Env → Sto → RS) : RS := match x with
  | .ok ρ .nx s => f ρ s
  | r => r
/-- turn by turn -/
def loopE (body : D → Env → Sto → RS) (ok : Sto → Bool) : List D → Env → Sto → RS
  | [], ρ, s => .ok ρ .nx s
  | d :: ds, ρ, s => match body d ρ s with
    | .ok ρ .nx s => if ok s then loopE body ok ds ρ s else .bad
    | .ok ρ .ct s => if ok s then loopE body ok ds ρ s else .bad
    | .ok ρ .bk s => if ok s then .ok ρ .nx s else .bad
    | .ok ρ (.rt v) s => if ok s then .ok ρ (.rt v) s else .bad
    | .ex c v ρ s => .ex c v ρ s
    | .bad => .bad
def whileE (test : Env → Sto → R Bool) (body : Env → Sto → RS) : Nat → Env → Sto → RS
  | 0, _, _ => .bad
  | n + 1, ρ, s => .of (test ρ s) ρ fun b s => if b then match body ρ s with
    | .ok ρ .nx s => whileE test body n ρ s
    | .ok ρ .ct s => whileE test body n ρ s
    | .ok ρ .bk s => .ok ρ .nx s
    | .ok ρ (.rt v) s => .ok ρ (.rt v) s
    | .ex c v ρ s => .ex c v ρ s
    | .bad => .bad else .ok ρ .nx s
def Wt.isDict : Wt → Bool
  | .dict _ _ => true
  | _ => false
/-- the errors whose text names their number -/
def exInt : List Nat := [7, 14]
def raiseOk (c : Nat) (ds : List D) : Bool := match ds with
  | [d] => !exInt.contains c || (match d with
    | .int i => decide (i.natAbs < 10 ^ 500)
    | _ => false)
  | _ => false
/-- the store behind a walk; out of a walk over a dict no error may come -/
def RS.mapS (w : Wt) (f : Sto → Sto) : RS → RS
  | .ok ρ g s => .ok ρ g (f s)
  | .ex c v ρ s => if w.isDict then .bad else .ex c v ρ (f s)
  | .bad => .bad
mutual
def exec (G : Orc) (fr : Sto) (φ : List FV) (η : Option (Nat × List D)) : S → Env → Sto → RS
  | .expr e, ρ, lv => .of (ev G fr φ η e ρ lv) ρ fun _ s => .ok ρ .nx s
  | .asg t e, ρ, lv => .of (ev G fr φ η e ρ lv) ρ fun d s => .ofT (asg G fr φ η t d ρ s) fun ρ s => .ok ρ .nx s
  | .asgp is es, ρ, lv => .of (evs G fr φ η es ρ lv) ρ fun ds s => match setAll ρ is ds with
    | some ρ1 => .ok ρ1 .nx s
    | none => .bad
  | .asf o f e, ρ, lv => .of (ev G fr φ η e ρ lv) ρ fun d s => .of (ev G fr φ η o ρ s) ρ fun x s => match insAt fr s x with
    | some (l, c, fs) => if fs.length < 500 then (match put fr s l (.ins c (putF f d fs)) with
      | some s2 => .ok ρ .nx s2
      | none => .bad) else .bad
    | none => .bad
  | .aug i op e, ρ, lv => match varD ρ i with
    | some x => .of (ev G fr φ η e ρ lv) ρ fun y s => match x, y with
      | .int _, .int _ => .of (bop fr s op x y) ρ fun z s => .ok (ρ.set i (some z)) .nx s
      | _, _ => .bad
    | none => .bad
  | .ifs c a b, ρ, lv => .of ((ev G fr φ η c ρ lv).bind fun x s => asBool x s) ρ fun t s => if t then execs G fr φ η a ρ s else execs G fr φ η b ρ s
  | .whl c b, ρ, lv => whileE (fun ρ s => (ev G fr φ η c ρ s).bind fun x s => asBool x s) (fun ρ s => execs G fr φ η b ρ s) G.turns ρ lv
  | .loop t it b, ρ, lv => .of (evI G fr φ η it ρ lv) ρ fun p s =>
      let was := wasLocked fr s p.2
      if !stays fr s p.2 then .bad else (loopE (fun d ρ s => match asgN ρ t d with
        | some ρ1 => execs G fr φ η b ρ1 s
        | none => .bad) (fun s => stays fr s p.2) p.1 ρ (lockS fr s p.2)).mapS p.2 fun s => unlockS fr s was p.2
  | .ret e, ρ, lv => .of (ev G fr φ η e ρ lv) ρ fun d s => .ok ρ (.rt d) s
  | .retN, ρ, lv => .ok ρ (.rt .non) lv
  | .raise c es, ρ, lv => .of (evs G fr φ η es ρ lv) ρ fun ds s => if raiseOk c ds then .ex c ds ρ s else .bad
  | .tryx b hs, ρ, lv => match execs G fr φ η b ρ lv with
    | .ex c v ρ1 s => execH G fr φ c v hs ρ1 s
    | r => r
  | .pass, ρ, lv => .ok ρ .nx lv
  | .brk, ρ, lv => .ok ρ .bk lv
  | .cnt, ρ, lv => .ok ρ .ct lv
def execs (G : Orc) (fr : Sto) (φ : List FV) (η : Option (Nat × List D)) : List S → Env → Sto → RS
  | [], ρ, lv => .ok ρ .nx lv
  | s :: ss, ρ, lv => (exec G fr φ η s ρ lv).then fun ρ s2 => execs G fr φ η ss ρ s2
def execH (G : Orc) (fr : Sto) (φ : List FV) (c : Nat) (v : List D) : List (Nat × Option Nat × List S) → Env → Sto → RS
  | [], ρ, s => .ex c v ρ s
  | (k, i, b) :: hs, ρ, s => if !G.exs.contains c then .bad else if k = c then
      match i with
      | some i => if ρ.length ≤ i then .bad else (match execs G fr φ (some (c, v)) b (ρ.set i none) s with
        | .ok ρ f s => .ok (ρ.set i none) f s
        | .ex .. => .bad
        | .bad => .bad)
      | none => (match execs G fr φ (some (c, v)) b ρ s with
        | .ex .. => .bad
        | r => r)
    else execH G fr φ c v hs ρ s
end

/-- a def: its slots, its parameters (what is captured behind them), does it leave what it finds as it is -/
structure Fn where
  slots : Nat
  ps : Nat
  /-- how many of its parameters are defs (the last ones) -/
  fs : Nat
  quiet : Bool
  body : List S
  deriving Inhabited
def begin (d : Fn) (args : List D) : Env := args.map some ++ List.replicate (d.slots - args.length) none
/-- the end of a quiet def -/
def endQ (n : Nat) (lv : Sto) : RS → R D
  | .ok _ (.rt v) _ => if D.old n v then .ok v lv else .bad
  | .ok _ .nx _ => .ok .non lv
  | .ex c v _ _ => if D.olds n v then .ex c v lv else .bad
  | _ => .bad
def endR : RS → R D
  | .ok _ (.rt v) s => .ok v s
  | .ok _ .nx s => .ok .non s
  | .ex c v _ s => .ex c v s
  | _ => .bad
def runFn (G : Orc) (d : Fn) (args : List D) (φ : List FV) (fr lv : Sto) : R D := if args.length = d.ps ∧ φ.length = d.fs then
    if d.quiet then endQ (fr.length + lv.length) lv (execs G (fr ++ lv) φ none d.body (begin d args) []) else endR (execs G fr φ none d.body (begin d args) lv)
  else .bad
/-- all defs by numbers, to a depth; the errors that there are -/
def run (F : Nat → Option Fn) (exs : List Nat) (rp : PyData → Str) (turns : Nat) : Nat → Orc
  | 0 => ⟨fun _ _ _ _ _ => .bad, rp, turns, fun f => (F f).isSome, exs⟩
  | k + 1 => ⟨fun f args φ fr lv => match F f with
    | some d => runFn (run F exs rp turns k) d args φ fr lv
    | none => .bad, rp, turns, fun f => (F f).isSome, exs⟩

/-! ### from the text -/
open PySem (Expr Stmt Scope NameKind)
inductive GV where
  /-- its number, its parameters; is the last one a def -/
  | fn (id : Nat) (ps : List Str) (fs : Bool)
  | cls (c : Nat) (ps : List Str)
  | exc (c : Nat) (ps : List Str)
  | con (d : D)
  | tab (kvs : List (Str × D))
  deriving Repr
structure Sta where
  N : List Str
  sc : Scope
  /-- what the module's names stand for -/
  gl : List (Str × GV)
  /-- the parameters that are defs; the name of the error in hand -/
  fps : List Str
  exn : Option Str
  /-- its class; the fields of the errors -/
  exk : Nat
  efs : List (Nat × Str)
  /-- the names of attributes, of own methods -/
  ats : List (Str × Nat)
  ms : List (Str × Nat × List (List Str))
/-- no name that is read in a way of its own -/
def okN (x : Str) : Bool := x != "__debug__" && x != "__classdict__" && x != "__name__"
def slotOf (S : Sta) (x : Str) : Option Nat := if okN x then (match S.sc.names.lookup x with
  | some .local => S.N.findIdx? (· == x)
  | some .cell => S.N.findIdx? (· == x)
  | some .free => S.N.findIdx? (· == x)
  | _ => none) else none
/-- a name that may be set: not a parameter that is a def, nor the error in hand -/
def targetOf (S : Sta) (x : Str) : Option Nat := if S.fps.contains x || S.exn == some x then none else match S.sc.names.lookup x with
  | some .local => S.N.findIdx? (· == x)
  | some .cell => S.N.findIdx? (· == x)
  | _ => none
def isGlob (S : Sta) (x : Str) : Bool := S.sc.names.lookup x == some .globalImplicit && okN x
def notSuper : Expr → Bool
  | .Call (.Name x _) [] [] _ => x != "super"
  | _ => true
def isComp : Expr → Bool
  | .ListComp .. => true
  | .SetComp .. => true
  | .DictComp .. => true
  | _ => false
def isTupE : Expr → Bool
  | .Tuple .. => true
  | _ => false
/-- the names of a comprehension's block are its own, or captured -/
def blkB (N : List Str) (sc scope : Scope) (own : List (Str × Nat)) : Bool :=
  (scope.kind == .function) && scope.names.all (fun y => scope.names.lookup y.1 == some y.2) && own.all (fun p => N[p.2]? == some p.1) &&
    own.all (fun p => scope.names.lookup p.1 == some .local || scope.names.lookup p.1 == some .cell) && scope.names.all fun y => match y.2 with
      | .free => sc.names.lookup y.1 == some .cell || sc.names.lookup y.1 == some .free
      | .local => own.any (fun p => p.1 == y.1) || !N.contains y.1
      | .cell => own.any (fun p => p.1 == y.1) || !N.contains y.1
      | _ => true
def ownOf (N : List Str) (is : List Nat) : List (Str × Nat) := is.map fun i => (N.getD i "", i)
def builtin? (S : Sta) (x : Str) : Bool := isGlob S x && (S.gl.lookup x).isNone
def relN (scope sc : Scope) : Scope :=
  { scope with names := scope.names.map fun (n, k) => if (k == .free && sc.kind == .function && sc.names.lookup n == some .cell) then (n, .cell) else (n, k) }
def bopOf : PySem.Operator → Option Bop
  | .Add => some .add
  | .Sub => some .sub
  | .Mult => some .mul
  | .FloorDiv => some .fdiv
  | .Mod => some .mod
  | .Pow => some .pow
  | _ => none
def copOf : PySem.CmpOp → Cop
  | .Eq => .eq
  | .NotEq => .ne
  | .Lt => .lt
  | .LtE => .le
  | .Gt => .gt
  | .GtE => .ge
  | .Is => .is
  | .IsNot => .isnot
  | .In => .isin
  | .NotIn => .notin
def biOf (x : Str) : Option Bi := ([("len", .len), ("list", .list), ("tuple", .tuple), ("dict", .dict), ("sorted", .sorted), ("abs", .abs), ("int", .int), ("str", .str), ("repr", .repr),
  ("all", .all), ("sum", .sum), ("min", .min), ("max", .max)] : List (Str × Bi)).lookup x
def bmOf (x : Str) : Option Bm := ([("append", .append), ("extend", .extend), ("pop", .pop), ("insert", .insert), ("index", .index), ("get", .get), ("setdefault", .setdefault), ("update", .update),
  ("join", .join), ("split", .split)] : List (Str × Bm)).lookup x
/-- own classes of errors under a built-in one are told by the table -/
def tyOf (S : Sta) (x : Str) : Option Ty :=
  if builtin? S x then ([("int", .tInt), ("bool", .tBool), ("str", .tStr), ("tuple", .tTuple)] : List (Str × Ty)).lookup x else none
def exOf (S : Sta) (x : Str) (kinds : List (Str × List Nat)) : Option (List Nat) :=
  if builtin? S x then kinds.lookup x else match S.gl.lookup x with
    | some (.exc c _) => some [c]
    | _ => none
/-- arguments by name put in the parameters' order -/
def byName (ps : List Str) (n : Nat) (kw : List Str) : Option (List Nat) :=
  if n + kw.length = ps.length ∧ kw.Nodup then (match (ps.drop n).mapM fun p => kw.findIdx? (· == p) with
    | some r => some (List.range n ++ r.map (· + n))
    | none => none) else none
/-- the first parameter list that takes them -/
def byNames (pss : List (List Str)) (n : Nat) (kw : List Str) : Option (List Nat) := pss.findSome? fun ps => byName ps n kw
def kwOf (kws : List PySem.Keyword) : Option (List (Str × Expr)) := kws.mapM fun k => k.arg.map fun x => (x, k.value)

def kindsOfErrors : List (Str × List Nat) := [("ValueError", [0, 1, 2, 3, 4, 5, 6, 7]), ("LookupError", [8, 9, 10, 11]), ("RuntimeError", [12, 13]), ("OverflowError", [14]), ("KeyError", []), ("IndexError", []), ("NotImplementedError", []), ("ZeroDivisionError", [])]
def tabOf (S : Sta) : Expr → Option (List (Str × D))
  | .Name x _ => if isGlob S x then match S.gl.lookup x with
      | some (.tab kvs) => some kvs
      | _ => none
    else none
  | _ => none
def nameOf : Expr → List Str
  | .Name x _ => [x]
  | _ => []
def namesOf : Expr → List Str
  | .Tuple es _ _ => es.flatMap nameOf
  | e => nameOf e
/-- what a comprehension that is a lambda's body binds -/
def compN : Expr → List Str
  | .ListComp _ [⟨tg, _, _, _⟩] _ _ => namesOf tg
  | _ => []
mutual
def namesT : T → List Nat
  | .nm i => [i]
  | .tp ts => namesTs ts
  | _ => []
def namesTs : List T → List Nat
  | [] => []
  | t :: ts => namesT t ++ namesTs ts
end
/-! classifiers: none of them calls the compiler -/
def conC : PySem.Const → Option C
  | .none => some (.con .non)
  | .bool b => some (.con (.bl b))
  | .int i => some (.con (.int i))
  | .str s => some (.con (.str s))
  | _ => none
def nameC (S : Sta) (x : Str) : Option C := match (if S.fps.contains x then none else slotOf S x) with
  | some i => some (.var i)
  | none => if isGlob S x then (match S.gl.lookup x with
      | some (.con d) => some (.con d)
      | _ => none)
    else none
def unC : PySem.UnaryOp → C → Option C
  | .Not, x => some (.not x)
  | .USub, x => some (.neg x)
  | _, _ => none
/-- x[..] or y -/
def orTOf : PySem.BoolOp → List Expr → Option (Expr × Expr)
  | .Or, [.Subscript a i q, b] => some (.Subscript a i q, b)
  | _, _ => none
inductive SK where
  | idx
  | slc (lo hi : Option Expr)
  | rev
  | bad
def skOf : Expr → SK
  | .Slice lo hi none _ => .slc lo hi
  | .Slice none none (some (.UnaryOp .USub (.Constant (.int 1) _ _) _)) _ => .rev
  | .Slice _ _ (some _) _ => .bad
  | _ => .idx
/-- is the name that of the error in hand -/
def isErr (S : Sta) : Expr → Bool
  | .Name x _ => S.exn == some x
  | _ => false
/-- the one clause of a comprehension: target, iterable, condition -/
def oneFor : List PySem.Comprehension → Option (Expr × Expr × Option Expr)
  | [⟨tg, iter, [], 0⟩] => some (tg, iter, none)
  | [⟨tg, iter, [c], 0⟩] => some (tg, iter, some c)
  | _ => none
inductive FK where
  | fmt (e : Expr)
  | txt (s : Str)
  | bad
def fkOf : Expr → FK
  | .FormattedValue v cv sp _ => if cv == -1 && sp.isNone then .fmt v else .bad
  | .Constant (.str s) _ _ => if s.length ≤ partMax then .txt s else .bad
  | _ => .bad
inductive CK where
  | nam (x : Str)
  | att (o : Expr) (m : Str) (apos : PySem.Pos)
  | bad
def ckOf : Expr → CK
  | .Name x _ => .nam x
  | .Attribute o m apos => .att o m apos
  | _ => .bad
/-- what a def's name stands for: where an error is in hand no own def may be called -/
def callGl (S : Sta) (x : Str) : Option GV := if S.exn.isSome && (S.gl.lookup x).isSome then some (.con .non) else S.gl.lookup x
inductive AK where
  | set (ys : List Expr)
  | setSort (ys : List Expr)
  | seqL (e : Expr)
  | seqT (e : Expr)
  | plain
def akOf (S : Sta) (x : Str) : List Expr → AK
  | [.Call (.Name y q) ys kws r] => if !builtin? S y then .plain
      else if x == "len" && y == "set" && kws.isEmpty then .set ys
      else if x == "sorted" && y == "set" && kws.isEmpty then .setSort ys
      else if x == "list" && (y == "range" || y == "enumerate" || y == "zip") then .seqL (.Call (.Name y q) ys kws r)
      else if x == "tuple" && y == "range" then .seqT (.Call (.Name y q) ys kws r)
      else .plain
  | [.Call (.Attribute o m q) ys kws r] => if x == "list" && m == "items" && ys.isEmpty && kws.isEmpty then .seqL (.Call (.Attribute o m q) ys kws r) else .plain
  | _ => .plain
/-- key=.. -/
def keyOf : List PySem.Keyword → Option Expr
  | [k] => if k.arg == some "key" then some k.value else none
  | _ => none
def isLen (S : Sta) : Expr → Bool
  | .Name y _ => builtin? S y && y == "len"
  | _ => false
inductive TyK where
  | ty (e : Expr) (t : Ty)
  | ex (cs : List Nat)
  | bad
def tykOf (S : Sta) : List Expr → TyK
  | [e, .Name t _] => if isErr S e then (match exOf S t kindsOfErrors with
      | some cs => .ex cs
      | none => .bad) else (match tyOf S t with
      | some ty => .ty e ty
      | none => .bad)
  | _ => .bad
def strictOf : List PySem.Keyword → Option Bool
  | [] => some false
  | [k] => (match k.value with
    | .Constant (.bool true) _ _ => if k.arg == some "strict" then some true else none
    | _ => none)
  | _ => none
inductive IK where
  | rng1 (b : Expr)
  | rng2 (a b : Expr)
  | enm (e : Expr)
  | zip (st : Bool) (a b : Expr)
  | itm (o : Expr)
  | val
  | bad
def ikN (S : Sta) (tp : Bool) (y : Str) (args : List Expr) (kws : List PySem.Keyword) : IK :=
  if !builtin? S y then .val
  else if y == "range" then (match args with
    | [b] => if kws.isEmpty then .rng1 b else .bad
    | [a, b] => if kws.isEmpty then .rng2 a b else .bad
    | _ => .bad)
  else if y == "enumerate" then (match args with
    | [b] => if tp && kws.isEmpty then .enm b else .bad
    | _ => .bad)
  else if y == "zip" then (match args, strictOf kws with
    | [a, b], some st => if tp then .zip st a b else .bad
    | _, _ => .bad)
  else .val
def ikA (tp : Bool) (o : Expr) (m : Str) (apos pos : PySem.Pos) (args : List Expr) (kws : List PySem.Keyword) : IK :=
  if m == "items" && args.isEmpty && kws.isEmpty then (if tp && notSuper o && apos.endLine == pos.line then .itm o else .bad) else .val
def ikOf (S : Sta) (tp : Bool) : Expr → IK
  | .Call f args kws pos => (match ckOf f with
    | .nam y => ikN S tp y args kws
    | .att o m apos => ikA tp o m apos pos args kws
    | .bad => .val)
  | _ => .val
mutual
def cE (S : Sta) : Nat → Nat → Expr → Option C
  | 0, _, _ => none
  | n + 1, p, e => match e with
    | .Constant c _ _ => conC c
    | .Name x _ => nameC S x
    | .Tuple es _ _ => (cEs S n p es).map .tup
    | .List es _ => (cEs S n p es).map .lst
    | .Dict ks vs _ => match ks.mapM id with
      | some ks => match cEs S n (2 * p) ks, cEs S n (2 * p + 1) vs with
        | some a, some b => if a.length = b.length then some (.dct ((a.zip b).flatMap fun q => [q.1, q.2])) else none
        | _, _ => none
      | none => none
    | .UnaryOp op a _ => (cE S n (2 * p) a).bind (unC op)
    | .BinOp a op b _ => match bopOf op, cE S n (2 * p) a, cE S n (2 * p + 1) b with
      | some o, some x, some y => some (.bin o x y)
      | _, _, _ => none
    | .BoolOp op es _ => match orTOf op es with
      | some (a, b) => match cE S n (2 * p) a, cE S n (2 * p + 1) b with
        | some x, some y => some (.orT x y)
        | _, _ => none
      | none => cBool S n p op es
    | .Compare a ops bs _ => cCmp S n p a ops bs
    | .IfExp t a b _ => match cE S n (4 * p) t, cE S n (4 * p + 1) a, cE S n (4 * p + 2) b with
      | some x, some y, some z => some (.ifx x y z)
      | _, _, _ => none
    | .Subscript o i _ => match skOf i with
      | .slc lo hi => match cE S n (4 * p) o, cO S n (4 * p + 1) lo, cO S n (4 * p + 2) hi with
        | some x, some a, some b => some (.slc x a b)
        | _, _, _ => none
      | .rev => (cE S n (4 * p) o).map .rev
      | .bad => none
      | .idx => match tabOf S o with
        | some kvs => (cE S n (2 * p + 1) i).map (.tab kvs)
        | none => match cE S n (2 * p) o, cE S n (2 * p + 1) i with
          | some x, some y => some (.idx x y)
          | _, _ => none
    | .Attribute o f _ => if isErr S o then (if S.efs.lookup S.exk == some f then some .exf else none) else if notSuper o then match cE S n (2 * p) o, S.ats.lookup f with
      | some x, some i => some (.att x i)
      | _, _ => none else none
    | .JoinedStr ps _ => (cFs S n p ps).map .fst
    | .ListComp elt gs scope _ => match oneFor gs with
      | some (tg, iter, cd) => match cI S n (8 * p) (isTupE tg) iter, cT { S with sc := relN scope S.sc } n (8 * p + 1) tg, cE { S with sc := relN scope S.sc } n (8 * p + 2) elt, cD { S with sc := relN scope S.sc } n (8 * p + 3) cd with
        | some it, some t, some e, some c => if blkB S.N S.sc scope (ownOf S.N (namesT t)) && S.exn.isNone then some (.lc e (namesT t) t it c) else none
        | _, _, _, _ => none
      | none => none
    | .DictComp k v gs scope _ => match oneFor gs with
      | some (tg, iter, none) => match cI S n (8 * p) (isTupE tg) iter, cT { S with sc := relN scope S.sc } n (8 * p + 1) tg, cE { S with sc := relN scope S.sc } n (8 * p + 2) k, cE { S with sc := relN scope S.sc } n (8 * p + 3) v with
        | some it, some t, some a, some b => if blkB S.N S.sc scope (ownOf S.N (namesT t)) && S.exn.isNone then some (.dc a b (namesT t) t it) else none
        | _, _, _, _ => none
      | _ => none
    | .Call f args kws pos => match ckOf f with
      | .nam x => cCn S n p x args kws
      | .att o m apos => cCa S n p o m apos args kws pos
      | .bad => none
    | _ => none
def cCmp (S : Sta) : Nat → Nat → Expr → List PySem.CmpOp → List Expr → Option C
  | 0, _, _, _, _ => none
  | n + 1, p, a, [op], [b] => match cE S n (2 * p) a, cE S n (2 * p + 1) b with
      | some x, some y => some (.cmp (copOf op) x y)
      | _, _ => none
  | n + 1, p, a, [op, oq], [b, c] => match cE S n (4 * p) a, cE S n (4 * p + 1) b, cE S n (4 * p + 2) c with
      | some x, some y, some z => some (.chain (copOf op) (copOf oq) x y z)
      | _, _, _ => none
  | _ + 1, _, _, _, _ => none
def cBool (S : Sta) : Nat → Nat → PySem.BoolOp → List Expr → Option C
  | 0, _, _, _ => none
  | _ + 1, _, _, [] => none
  | n + 1, p, op, e :: es => if es.isEmpty then cE S n p e else match cE S n (2 * p) e, cBool S n (2 * p + 1) op es with
    | some a, some b => some (match op with
      | .And => .and a b
      | .Or => .or a b)
    | _, _ => none
def cO (S : Sta) : Nat → Nat → Option Expr → Option (Option C)
  | 0, _, _ => none
  | _ + 1, _, none => some none
  | n + 1, p, some e => (cE S n p e).map some
/-- a condition -/
def cD (S : Sta) : Nat → Nat → Option Expr → Option (Option C)
  | 0, _, _ => none
  | _ + 1, _, none => some none
  | n + 1, p, some e => (cE S n p e).map some
def cEs (S : Sta) : Nat → Nat → List Expr → Option (List C)
  | 0, _, _ => none
  | _ + 1, _, [] => some []
  | n + 1, p, e :: es => match cE S n (2 * p) e, cEs S n (2 * p + 1) es with
    | some a, some b => some (a :: b)
    | _, _ => none
def cFs (S : Sta) : Nat → Nat → List Expr → Option (List C)
  | 0, _, _ => none
  | _ + 1, _, [] => some []
  | n + 1, p, e :: es => match fkOf e with
    | .fmt v => match cE S n (2 * p) v, cFs S n (2 * p + 1) es with
      | some a, some b => some (.fmt a :: b)
      | _, _ => none
    | .txt s => (cFs S n (2 * p + 1) es).map (.con (.str s) :: ·)
    | .bad => none
/-- a name's call -/
def cCn (S : Sta) : Nat → Nat → Str → List Expr → List PySem.Keyword → Option C
  | 0, _, _, _, _ => none
  | n + 1, p, x, args, kws => match S.fps.findIdx? (· == x) with
      | some i => if kws.isEmpty && S.exn.isNone then (cEs S n p args).map (.callv i) else none
      | none => if isGlob S x then match callGl S x with
          | some (.fn id ps fs) => if kws.isEmpty then (match args.getLast? with
              | some l => if fs && args.length == ps.length then (match cEs S n (2 * p) args.dropLast, cG S n (2 * p + 1) l with
                | some es, some g => some (.callF id es g)
                | _, _ => none) else (cEs S n p args).map (.call id)
              | none => (cEs S n p args).map (.call id)) else match kwOf kws with
            | some kw => match byName ps args.length (kw.map (·.1)), cEs S n p (args ++ kw.map (·.2)) with
              | some ix, some es => some (.callk id ix es)
              | _, _ => none
            | none => none
          | some (.cls c ps) => if kws.isEmpty then (cEs S n p args).map (.mk c) else match kwOf kws with
            | some kw => match byName ps args.length (kw.map (·.1)), cEs S n p (args ++ kw.map (·.2)) with
              | some ix, some es => some (.mkk c ix es)
              | _, _ => none
            | none => none
          | some _ => none
          | none => cB S n p x args kws
        else none
/-- a method's call -/
def cCa (S : Sta) : Nat → Nat → Expr → Str → PySem.Pos → List Expr → List PySem.Keyword → PySem.Pos → Option C
  | 0, _, _, _, _, _, _, _ => none
  | n + 1, p, o, m, apos, args, kws, pos => if !(notSuper o && apos.endLine == pos.line && decide (args.length + kws.length < 25)) then none else match bmOf m with
      | some b => if kws.isEmpty then match cE S n (2 * p) o, cEs S n (2 * p + 1) args with
          | some x, some es => some (.bm b x es)
          | _, _ => none
        else none
      | none => if S.exn.isSome then none else match S.ms.lookup m with
        | some (i, pss) => if kws.isEmpty then match cE S n (2 * p) o, cEs S n (2 * p + 1) args with
            | some x, some es => some (.mth i x es)
            | _, _ => none
          else match kwOf kws with
            | some kw => match byNames pss args.length (kw.map (·.1)), cE S n (2 * p) o, cEs S n (2 * p + 1) (args ++ kw.map (·.2)) with
              | some ix, some x, some es => some (.mthk i ix x es)
              | _, _, _ => none
            | none => none
        | none => none
/-- a def handed on -/
def cG (S : Sta) : Nat → Nat → Expr → Option Gf
  | 0, _, _ => none
  | n + 1, p, e => match e with
    | .Name x _ => match S.fps.findIdx? (· == x) with
      | some j => some (.slot j)
      | none => if isGlob S x then match S.gl.lookup x with
          | some (.fn id _ _) => some (.nam id)
          | _ => none
        else none
    | .Lambda args body scope _ =>
      let fs := (scope.names.filter fun q => q.2 == .free).map (·.1)
      let ps := args.args.map (·.arg)
      let N2 := ps ++ fs ++ compN body
      match fs.mapM (slotOf S), cE { S with N := N2, sc := scope, fps := [] } n (2 * p) body with
        | some is, some b => some (Gf.lam (100000 + p) is ps.length N2.length b)
        | _, _ => none
    | _ => none
/-- a built-in's call -/
def cB (S : Sta) : Nat → Nat → Str → List Expr → List PySem.Keyword → Option C
  | 0, _, _, _, _ => none
  | n + 1, p, x, args, kws =>
    if x == "isinstance" then (if kws.isEmpty then match tykOf S args with
      | .ty e t => (cE S n p e).map (.isi · t)
      | .ex cs => some (.exi cs)
      | .bad => none else none)
    else if kws.isEmpty then match akOf S x args with
      | .set ys => (cEs S n p ys).map (.bi .set)
      | .setSort ys => (cEs S n p ys).map (.bi .setSort)
      | .seqL e => (cI S n p true e).map .seqL
      | .seqT e => (cI S n p true e).map .seqT
      | .plain => if S.exn.isSome then none else match biOf x with
        | some b => (cEs S n p args).map (.bi b)
        | none => none
    else match keyOf kws, args.head? with
      | some k, some e => if args.length != 1 then none else if x == "min" && isLen S k then (cE S n (2 * p) e).map .mnl else match cE S n (2 * p) e, cG S n (2 * p + 1) k with
        | some a, some f => if x == "sorted" then some (.srt a f) else if x == "min" then some (.mnk a f) else none
        | _, _ => none
      | _, _ => none
/-- tp: is the target a tuple -/
def cI (S : Sta) : Nat → Nat → Bool → Expr → Option I
  | 0, _, _, _ => none
  | n + 1, p, tp, e => match ikOf S tp e with
    | .rng1 b => (cE S n p b).map .rng1
    | .rng2 a b => match cE S n (2 * p) a, cE S n (2 * p + 1) b with
      | some a, some b => some (.rng2 a b)
      | _, _ => none
    | .enm b => (cE S n p b).map .enm
    | .zip st a b => match cE S n (2 * p) a, cE S n (2 * p + 1) b with
      | some a, some b => some (.zip st a b)
      | _, _ => none
    | .itm o => (cE S n p o).map .itm
    | .val => (cE S n p e).map .val
    | .bad => none
def cT (S : Sta) : Nat → Nat → Expr → Option T
  | 0, _, _ => none
  | n + 1, p, e => match e with
    | .Name x _ => (targetOf S x).map .nm
    | .Tuple es _ _ => (cTs S n p es).map .tp
    | .Subscript o i _ => match cE S n (2 * p) o, cE S n (2 * p + 1) i with
      | some a, some b => some (.sub a b)
      | _, _ => none
    | _ => none
def cTs (S : Sta) : Nat → Nat → List Expr → Option (List T)
  | 0, _, _ => none
  | _ + 1, _, [] => some []
  | n + 1, p, e :: es => match cT S n (2 * p) e, cTs S n (2 * p + 1) es with
    | some a, some b => some (a :: b)
    | _, _ => none
end
/-- the names that are exchanged, or none -/
def swapQ (sc : Scope) (t e : Expr) : Option (List Str) := match (match t, e with
    | .Tuple ts _ _, .Tuple vs _ _ => some (ts, vs)
    | .List ts _, .Tuple vs _ _ => some (ts, vs)
    | _, _ => none) with
  | none => none
  | some (ts, vs) =>
    if !(ts.length == 2 || ts.length == 3) || vs.length != ts.length then none
    else if vs.any fun | .Starred .. => true | _ => false then none
    else
      let line := (ts.head?.map (·.pos.line)).getD 0
      let names := ts.filterMap fun
        | .Name id pos => if sc.names.lookup id == some .local && pos.line == line then some id else none
        | _ => none
      if names.length != ts.length || names.eraseDups.length != names.length then none
      else if vs.all (PySem.foldedForSure 8) then none
      else some names
def foldAll : Expr → Bool
  | .Tuple vs _ _ => vs.all (PySem.constantsAlone 8)
  | _ => false
/-- is the new list stored within the comprehension -/
def lcHere (sc : Scope) (t e : Expr) : Bool := match t, e with
  | .Name x q, .ListComp _ _ scope pos => sc.names.lookup x == some .local && q.line == pos.line && !(scope.names.any fun (n, k) => n == x && (k == .local || k == .cell))
  | .Name x q, .DictComp _ _ _ scope pos => sc.names.lookup x == some .local && q.line == pos.line && !(scope.names.any fun (n, k) => n == x && (k == .local || k == .cell))
  | _, _ => false
def isDoc : Expr → Bool
  | .Constant (.str _) _ _ => true
  | _ => false
inductive GK where
  | att (o : Expr) (f : Str)
  | swap (xs : List Str) (vs : List Expr)
  | plain
  | bad
def tupOf : Expr → Option (List Expr)
  | .Tuple es _ _ => some es
  | _ => none
def gkOf (S : Sta) (t e : Expr) : GK := match t with
  | .Attribute o f _ => .att o f
  | t => match swapQ S.sc t e with
    | some xs => (match tupOf t, tupOf e with
      | some _, some vs => if foldAll e || S.exn.isSome then .bad else .swap xs vs
      | _, _ => .bad)
    | none => if S.exn.isSome && isTupE t then .bad else .plain
/-- the error's class and its arguments -/
def raiseOf (S : Sta) : Option Expr → Option (Nat × List Expr)
  | some (.Call (.Name x _) args [] _) => if isGlob S x then (match S.gl.lookup x with
    | some (.exc c ps) => if args.length = ps.length then some (c, args) else none
    | _ => none) else none
  | _ => none
def augOf (S : Sta) : Expr → Option Nat
  | .Name x _ => targetOf S x
  | _ => none
def excOf (S : Sta) : Option Expr → Option Nat
  | some (.Name c _) => if isGlob S c then (match S.gl.lookup c with
    | some (.exc k _) => some k
    | _ => none) else none
  | _ => none
def asOf (S : Sta) : Option Str → Option (Option Nat)
  | none => some none
  | some x => if S.sc.names.lookup x == some .local && okN x then (targetOf S x).map some else none
mutual
def cS (S : Sta) : Nat → Nat → Stmt → Option Sv.S
  | 0, _, _ => none
  | n + 1, p, st => match st with
    | .Expr e _ => if isDoc e then some .pass else if isComp e then none else (cE S n p e).map .expr
    | .Assign ts e _ => match ts with
      | [t] => match gkOf S t e with
        | .att o f => match cE S n (2 * p) o, S.ats.lookup f, cE S n (2 * p + 1) e with
          | some x, some i, some y => some (.asf x i y)
          | _, _, _ => none
        | .swap xs vs => match xs.mapM (targetOf S), cEs S n p vs with
          | some is, some es => some (.asgp is es)
          | _, _ => none
        | .plain => match cT S n (2 * p) t, cE S n (2 * p + 1) e with
          | some a, some b => some (.asg a b)
          | _, _ => none
        | .bad => none
      | _ => none
    | .AugAssign t op e _ => match augOf S t, bopOf op, cE S n p e with
      | some i, some o, some a => some (.aug i o a)
      | _, _, _ => none
    | .If c a b _ => match cE S n (4 * p) c, cSs S n (4 * p + 1) a, cSs S n (4 * p + 2) b with
      | some x, some y, some z => some (.ifs x y z)
      | _, _, _ => none
    | .While c b o _ => if S.exn.isSome || !o.isEmpty then none else match cE S n (2 * p) c, cSs S n (2 * p + 1) b with
      | some x, some y => some (.whl x y)
      | _, _ => none
    | .For t it b o _ => if S.exn.isSome || !o.isEmpty then none else match cT S n (4 * p) t, cI S n (4 * p + 1) (isTupE t) it, cSs S n (4 * p + 2) b with
      | some x, some y, some z => some (.loop x y z)
      | _, _, _ => none
    | .Return oe _ => match oe with
      | none => some .retN
      | some e => (cE S n p e).map .ret
    | .Raise x y _ => if S.exn.isSome || y.isSome then none else match raiseOf S x with
      | some (c, args) => (cEs S n p args).map (.raise c)
      | none => none
    | .Try b hs o f _ => if S.exn.isSome || !o.isEmpty || !f.isEmpty then none else match cSs S n (2 * p) b, cHs S n (2 * p + 1) hs with
      | some x, some y => some (.tryx x y)
      | _, _ => none
    | .Pass _ => some .pass
    | .Break _ => some .brk
    | .Continue _ => some .cnt
    | _ => none
def cSs (S : Sta) : Nat → Nat → List Stmt → Option (List Sv.S)
  | 0, _, _ => none
  | _ + 1, _, [] => some []
  | n + 1, p, s :: ss => match cS S n (2 * p) s, cSs S n (2 * p + 1) ss with
    | some a, some b => some (a :: b)
    | _, _ => none
def cHs (S : Sta) : Nat → Nat → List PySem.ExceptHandler → Option (List (Nat × Option Nat × List Sv.S))
  | 0, _, _ => none
  | _ + 1, _, [] => some []
  | n + 1, p, .ExceptHandler t x b _ :: hs => match excOf S t, asOf S x with
    | some k, some i => match cSs { S with exn := some (x.getD ""), exk := k } n (2 * p) b, cHs S n (2 * p + 1) hs with
        | some a, some r => some ((k, i, a) :: r)
        | _, _ => none
    | _, _ => none
end

/-! ### the lambdas that a body makes -/
def lamG : Gf → List (Nat × Nat × Nat × C)
  | .lam f caps np ns b => [(f, np + caps.length, ns, b)]
  | _ => []
mutual
def lamC : C → List (Nat × Nat × Nat × C)
  | .tup es => lamCs es
  | .lst es => lamCs es
  | .neg a => lamC a
  | .not a => lamC a
  | .bin _ a b => lamC a ++ lamC b
  | .cmp _ a b => lamC a ++ lamC b
  | .and a b => lamC a ++ lamC b
  | .or a b => lamC a ++ lamC b
  | .ifx a b c => lamC a ++ lamC b ++ lamC c
  | .idx a b => lamC a ++ lamC b
  | .att a _ => lamC a
  | .call _ es => lamCs es
  | .callF _ es g => lamCs es ++ lamG g
  | .mth _ o es => lamC o ++ lamCs es
  | .bi _ es => lamCs es
  | .bm _ o es => lamC o ++ lamCs es
  | .lc e _ _ _ _ => lamC e
  | .srt a g => lamC a ++ lamG g
  | .mnk a g => lamC a ++ lamG g
  | _ => []
def lamCs : List C → List (Nat × Nat × Nat × C)
  | [] => []
  | e :: es => lamC e ++ lamCs es
end
mutual
def lamS : Sv.S → List (Nat × Nat × Nat × C)
  | .expr e => lamC e
  | .asg _ e => lamC e
  | .asgp _ es => lamCs es
  | .asf a _ b => lamC a ++ lamC b
  | .ifs c a b => lamC c ++ lamSs a ++ lamSs b
  | .whl _ b => lamSs b
  | .loop _ _ b => lamSs b
  | .ret e => lamC e
  | .tryx b _ => lamSs b
  | _ => []
def lamSs : List Sv.S → List (Nat × Nat × Nat × C)
  | [] => []
  | s :: ss => lamS s ++ lamSs ss
end
end Sv
end -- Exec
section -- Pl1
set_option Elab.async false
set_option linter.all false
set_option maxRecDepth 100000
set_option maxHeartbeats 4000000
/-! # Plain laws over the interpreter: tools, the drawn numbers, k77's functions -/
namespace Sv
open PySem (Str PyData)
abbrev Tx (cs : List Nat) : Str := ⟨cs.toArray⟩
theorem Tx_len (cs : List Nat) : (Tx cs).length = cs.length := by show cs.toArray.size = _; simp
theorem Tx_inj {a b : List Nat} (h : Tx a = Tx b) : a = b := by
  have := congrArg (fun z : Str => z.cps.toList) h
  simpa using this
theorem Tx_eq (z : Str) : Tx z.cps.toList = z := by cases z; rfl
theorem Tx_beq (a b : List Nat) : (Tx a == Tx b) = decide (a = b) := by
  by_cases h : a = b
  · subst h; simp
  · rw [decide_eq_false h, beq_eq_false_iff_ne]
    exact fun e => h (Tx_inj e)
/-! ### answers -/
theorem of_ok {α : Type} (a : α) (s : Sto) : R.of (some a) s = .ok a s := rfl
theorem rs_ok {α : Type} (a : α) (s : Sto) (ρ : Env) (f : α → Sto → RS) : RS.of (.ok a s) ρ f = f a s := rfl
theorem rs_ex {α : Type} (c : Nat) (v : List D) (s : Sto) (ρ : Env) (f : α → Sto → RS) : RS.of (.ex c v s) ρ f = .ex c v ρ s := rfl
theorem bnd_ok {α β : Type} (a : α) (s : Sto) (f : α → Sto → R β) : (R.ok a s).bind f = f a s := rfl
theorem bnd_ex {α β : Type} (c : Nat) (v : List D) (s : Sto) (f : α → Sto → R β) : (R.ex c v s : R α).bind f = .ex c v s := rfl
theorem thn_nx (ρ : Env) (s : Sto) (f : Env → Sto → RS) : (RS.ok ρ .nx s).then f = f ρ s := rfl
theorem thn_rt (ρ : Env) (s : Sto) (d : D) (f : Env → Sto → RS) : (RS.ok ρ (.rt d) s).then f = .ok ρ (.rt d) s := rfl
theorem thn_ex (c : Nat) (v : List D) (ρ : Env) (s : Sto) (f : Env → Sto → RS) : (RS.ex c v ρ s).then f = .ex c v ρ s := rfl
/-! ### steps -/
section
variable {G : Orc} {fr : Sto} {φ : List FV} {η : Option (Nat × List D)} {a b c : C} {ρ ρ' : Env} {lv s s1 s2 : Sto} {x y z : D} {t : Bool}
theorem ev_orF (h : ev G fr φ η a ρ lv = .ok (.bl false) s1) : ev G fr φ η (.or a b) ρ lv = ev G fr φ η b ρ s1 := by simp only [ev, h, bnd_ok, asBool, Bool.false_eq_true, if_false]
theorem ev_orT (h : ev G fr φ η a ρ lv = .ok (.bl true) s1) : ev G fr φ η (.or a b) ρ lv = .ok (.bl true) s1 := by simp only [ev, h, bnd_ok, asBool, if_true]
theorem ev_andT (h : ev G fr φ η a ρ lv = .ok (.bl true) s1) : ev G fr φ η (.and a b) ρ lv = ev G fr φ η b ρ s1 := by simp only [ev, h, bnd_ok, asBool, if_true]
theorem ev_andF (h : ev G fr φ η a ρ lv = .ok (.bl false) s1) : ev G fr φ η (.and a b) ρ lv = .ok (.bl false) s1 := by simp only [ev, h, bnd_ok, asBool, Bool.false_eq_true, if_false]
theorem ev_not (h : ev G fr φ η a ρ lv = .ok (.bl t) s1) : ev G fr φ η (.not a) ρ lv = .ok (.bl (!t)) s1 := by simp only [ev, h, bnd_ok, asBool]
theorem ev_ifT (h : ev G fr φ η c ρ lv = .ok (.bl true) s1) : ev G fr φ η (.ifx c a b) ρ lv = ev G fr φ η a ρ s1 := by simp only [ev, h, bnd_ok, asBool, if_true]
theorem ev_ifF (h : ev G fr φ η c ρ lv = .ok (.bl false) s1) : ev G fr φ η (.ifx c a b) ρ lv = ev G fr φ η b ρ s1 := by simp only [ev, h, bnd_ok, asBool, Bool.false_eq_true, if_false]
theorem ex_ifT {p q : List S} (h : ev G fr φ η c ρ lv = .ok (.bl true) s1) : exec G fr φ η (.ifs c p q) ρ lv = execs G fr φ η p ρ s1 := by simp only [exec, h, bnd_ok, asBool, rs_ok, if_true]
theorem ex_ifF {p q : List S} (h : ev G fr φ η c ρ lv = .ok (.bl false) s1) : exec G fr φ η (.ifs c p q) ρ lv = execs G fr φ η q ρ s1 := by simp only [exec, h, bnd_ok, asBool, rs_ok, Bool.false_eq_true, if_false]
theorem ex_ret (h : ev G fr φ η a ρ lv = .ok x s1) : exec G fr φ η (.ret a) ρ lv = .ok ρ (.rt x) s1 := by simp only [exec, h, rs_ok]
theorem ex_expr (h : ev G fr φ η a ρ lv = .ok x s1) : exec G fr φ η (.expr a) ρ lv = .ok ρ .nx s1 := by simp only [exec, h, rs_ok]
theorem ex_asg {i : Nat} (h : ev G fr φ η a ρ lv = .ok x s1) (hi : i < ρ.length) : exec G fr φ η (.asg (.nm i) a) ρ lv = .ok (ρ.set i (some x)) .nx s1 := by simp only [exec, h, rs_ok, asg, hi, if_true, RS.ofT]
theorem exs_nil : execs G fr φ η [] ρ lv = .ok ρ .nx lv := by simp only [execs]
theorem exs_nx {p : S} {q : List S} (h : exec G fr φ η p ρ lv = .ok ρ' .nx s1) : execs G fr φ η (p :: q) ρ lv = execs G fr φ η q ρ' s1 := by simp only [execs, h, thn_nx]
theorem exs_rt {p : S} {q : List S} (h : exec G fr φ η p ρ lv = .ok ρ' (.rt x) s1) : execs G fr φ η (p :: q) ρ lv = .ok ρ' (.rt x) s1 := by simp only [execs, h, thn_rt]
theorem exs_ex {p : S} {q : List S} {k : Nat} {v : List D} (h : exec G fr φ η p ρ lv = .ex k v ρ' s1) : execs G fr φ η (p :: q) ρ lv = .ex k v ρ' s1 := by simp only [execs, h, thn_ex]
theorem ev_cmp {op : Cop} (h1 : ev G fr φ η a ρ lv = .ok x s1) (h2 : ev G fr φ η b ρ s1 = .ok y s2) (h : cop fr s2 op x y = some t) : ev G fr φ η (.cmp op a b) ρ lv = .ok (.bl t) s2 := by simp only [ev, h1, h2, bnd_ok, h, Option.map_some, of_ok]
theorem ev_bin {op : Bop} (h1 : ev G fr φ η a ρ lv = .ok x s1) (h2 : ev G fr φ η b ρ s1 = .ok y s2) : ev G fr φ η (.bin op a b) ρ lv = bop fr s2 op x y := by simp only [ev, h1, h2, bnd_ok]
theorem ev_idx (h1 : ev G fr φ η a ρ lv = .ok x s1) (h2 : ev G fr φ η b ρ s1 = .ok y s2) (h : idxD fr s2 x y = some z) : ev G fr φ η (.idx a b) ρ lv = .ok z s2 := by simp only [ev, h1, h2, bnd_ok, h, of_ok]
theorem ev_var {i : Nat} (h : varD ρ i = some x) : ev G fr φ η (.var i) ρ lv = .ok x lv := by simp only [ev, h, of_ok]
theorem ev_con : ev G fr φ η (.con x) ρ lv = .ok x lv := by simp only [ev]
theorem ev_neg {i : Int} (h : ev G fr φ η a ρ lv = .ok (.int i) s1) : ev G fr φ η (.neg a) ρ lv = .ok (.int (-i)) s1 := by simp only [ev, h, bnd_ok]
theorem evs_nil : evs G fr φ η [] ρ lv = .ok [] lv := by simp only [evs]
theorem evs_cons {es : List C} {xs : List D} (h1 : ev G fr φ η a ρ lv = .ok x s1) (h2 : evs G fr φ η es ρ s1 = .ok xs s2) : evs G fr φ η (a :: es) ρ lv = .ok (x :: xs) s2 := by simp only [evs, h1, h2, bnd_ok]
theorem ev_call {f : Nat} {es : List C} {xs : List D} (h : evs G fr φ η es ρ lv = .ok xs s1) : ev G fr φ η (.call f es) ρ lv = G.call f xs [] fr s1 := by simp only [ev, h, bnd_ok]
theorem ev_bi1 {k : Bi} (hk : k ≠ .len) (h : ev G fr φ η a ρ lv = .ok x s1) : ev G fr φ η (.bi k [a]) ρ lv = bi G.rp fr s1 k [x] := by
  cases k <;> first | exact absurd rfl hk | simp only [ev, evs, h, bnd_ok]
theorem ev_len (h : ev G fr φ η a ρ lv = .ok x s1) : ev G fr φ η (.bi .len [a]) ρ lv = lenR G fr s1 x := by simp only [ev, evs, h, bnd_ok]
theorem ev_tup {es : List C} {xs : List D} (h : evs G fr φ η es ρ lv = .ok xs s1) (hl : xs.length ≤ lineMax) : ev G fr φ η (.tup es) ρ lv = .ok (.tup xs) s1 := by simp only [ev, h, bnd_ok, newT, hl, if_true]
theorem ev_lst {es : List C} {xs : List D} (h : evs G fr φ η es ρ lv = .ok xs s1) (hl : xs.length ≤ lineMax) : ev G fr φ η (.lst es) ρ lv = .ok (.ref (fr.length + s1.length)) (s1 ++ [.lst xs]) := by simp only [ev, h, bnd_ok, newL, hl, if_true, new]
end
/-- a list's making that changes nothing -/
theorem lcL_pure {α : Type} {body : D → Sto → R (Option α)} {ok : Sto → Bool} {f : D → Option α} {s : Sto} (hok : ok s = true) : ∀ {ds : List D}, (∀ d ∈ ds, body d s = .ok (f d) s) → lcL body ok ds s = .ok (ds.filterMap f) s
  | [], _ => rfl
  | d :: ds, h => by
    have ih := lcL_pure hok (ds := ds) fun d hd => h d (List.mem_cons_of_mem _ hd)
    simp only [lcL, h d (List.mem_cons_self ..), bnd_ok, hok, if_true, ih]
    cases e : f d <;> simp [List.filterMap_cons, e]
/-! ### numbers in a text -/
def isDig (c : Nat) : Bool := decide (48 ≤ c) && decide (c ≤ 57)
def valN (cs : List Nat) : Nat := cs.foldl (fun a c => a * 10 + (c - 48)) 0
/-- figures, none ahead of them in vain -/
def isNum (most : Nat) (cs : List Nat) : Bool := !cs.isEmpty && decide (cs.length ≤ most) && cs.all isDig && (decide (cs.head? ≠ some 48) || decide (cs = [48]))
def numIn (cs : List Nat) (most : Int) : D := if isNum 60 cs = true ∧ (valN cs : Int) ≤ most then .int (valN cs) else .non
def DIG : Str := { cps := #[48, 49, 50, 51, 52, 53, 54, 55, 56, 57] }
theorem in_dig (fr lv : Sto) (c : Nat) : isIn fr lv (.str ⟨#[c]⟩) (.str DIG) = some (isDig c) := by
  have : (⟨#[c]⟩ : Str).length = 1 := rfl
  simp only [isIn, this, if_true, Option.some.injEq, DIG]
  unfold isDig
  simp only [List.any_cons, List.any_nil, Bool.or_false]
  rw [Bool.eq_iff_iff]
  simp only [Bool.or_eq_true, beq_iff_eq, Bool.and_eq_true, decide_eq_true_eq]
  omega
end Sv
end -- Pl1
section -- Fnk77
set_option linter.all false
namespace Sv.Lw
open PySem (Str PyData)
def f_180 : Fn := { slots := 3, ps := 1, fs := 0, quiet := true, body := [Sv.S.ret (Sv.C.ifx (Sv.C.cmp (Sv.Cop.ne) (Sv.C.var 0) (Sv.C.tup [])) (Sv.C.bm (Sv.Bm.join) (Sv.C.con (Sv.D.str { cps := #[32] })) [Sv.C.lc (Sv.C.fst [Sv.C.fmt (Sv.C.var 1), Sv.C.con (Sv.D.str { cps := #[58] }), Sv.C.fmt (Sv.C.var 2)]) [1, 2] (Sv.T.tp [Sv.T.nm 1, Sv.T.nm 2]) (Sv.I.val (Sv.C.var 0)) none]) (Sv.C.con (Sv.D.str { cps := #[45] })))] }
def f_156 : Fn := { slots := 3, ps := 2, fs := 0, quiet := true, body := [Sv.S.ifs (Sv.C.or (Sv.C.cmp (Sv.Cop.eq) (Sv.C.var 0) (Sv.C.con (Sv.D.str { cps := #[] }))) (Sv.C.or (Sv.C.cmp (Sv.Cop.gt) (Sv.C.bi (Sv.Bi.len) [Sv.C.var 0]) (Sv.C.con (Sv.D.int 60))) (Sv.C.not (Sv.C.bi (Sv.Bi.all) [Sv.C.lc (Sv.C.cmp (Sv.Cop.isin) (Sv.C.var 2) (Sv.C.con (Sv.D.str { cps := #[48, 49, 50, 51, 52, 53, 54, 55, 56, 57] }))) [2] (Sv.T.nm 2) (Sv.I.val (Sv.C.var 0)) none])))) [Sv.S.ret (Sv.C.con (Sv.D.non))] [], Sv.S.ifs (Sv.C.and (Sv.C.cmp (Sv.Cop.eq) (Sv.C.idx (Sv.C.var 0) (Sv.C.con (Sv.D.int 0))) (Sv.C.con (Sv.D.str { cps := #[48] }))) (Sv.C.cmp (Sv.Cop.ne) (Sv.C.var 0) (Sv.C.con (Sv.D.str { cps := #[48] })))) [Sv.S.ret (Sv.C.con (Sv.D.non))] [], Sv.S.ret (Sv.C.ifx (Sv.C.cmp (Sv.Cop.le) (Sv.C.bi (Sv.Bi.int) [Sv.C.var 0]) (Sv.C.var 1)) (Sv.C.bi (Sv.Bi.int) [Sv.C.var 0]) (Sv.C.con (Sv.D.non)))] }
def f_181 : Fn := { slots := 2, ps := 1, fs := 0, quiet := true, body := [Sv.S.ifs (Sv.C.cmp (Sv.Cop.ne) (Sv.C.slc (Sv.C.var 0) none (some (Sv.C.con (Sv.D.int 1)))) (Sv.C.con (Sv.D.str { cps := #[45] }))) [Sv.S.ret (Sv.C.call 156 [Sv.C.var 0, Sv.C.con (Sv.D.int 999999999999999999999999999999999999999999999999999999999999)])] [], Sv.S.asg (Sv.T.nm 1) (Sv.C.call 156 [Sv.C.slc (Sv.C.var 0) (some (Sv.C.con (Sv.D.int 1))) none, Sv.C.con (Sv.D.int 999999999999999999999999999999999999999999999999999999999999)]), Sv.S.ret (Sv.C.ifx (Sv.C.or (Sv.C.cmp (Sv.Cop.is) (Sv.C.var 1) (Sv.C.con (Sv.D.non))) (Sv.C.cmp (Sv.Cop.eq) (Sv.C.var 1) (Sv.C.con (Sv.D.int 0)))) (Sv.C.con (Sv.D.non)) (Sv.C.neg (Sv.C.var 1)))] }
def f_182 : Fn := { slots := 7, ps := 2, fs := 0, quiet := true, body := [Sv.S.ifs (Sv.C.cmp (Sv.Cop.eq) (Sv.C.var 0) (Sv.C.con (Sv.D.str { cps := #[45] }))) [Sv.S.ret (Sv.C.tup [])] [], Sv.S.asg (Sv.T.nm 2) (Sv.C.lst []), Sv.S.loop (Sv.T.nm 3) (Sv.I.val (Sv.C.bm (Sv.Bm.split) (Sv.C.var 0) [Sv.C.con (Sv.D.str { cps := #[32] })])) [Sv.S.asg (Sv.T.nm 4) (Sv.C.bm (Sv.Bm.split) (Sv.C.var 3) [Sv.C.con (Sv.D.str { cps := #[58] })]), Sv.S.asg (Sv.T.nm 5) (Sv.C.call 156 [Sv.C.idx (Sv.C.var 4) (Sv.C.con (Sv.D.int 0)), Sv.C.bin (Sv.Bop.sub) (Sv.C.var 1) (Sv.C.con (Sv.D.int 1))]), Sv.S.asg (Sv.T.nm 6) (Sv.C.ifx (Sv.C.cmp (Sv.Cop.eq) (Sv.C.bi (Sv.Bi.len) [Sv.C.var 4]) (Sv.C.con (Sv.D.int 2))) (Sv.C.call 181 [Sv.C.idx (Sv.C.var 4) (Sv.C.con (Sv.D.int 1))]) (Sv.C.con (Sv.D.non))), Sv.S.ifs (Sv.C.or (Sv.C.cmp (Sv.Cop.is) (Sv.C.var 5) (Sv.C.con (Sv.D.non))) (Sv.C.cmp (Sv.Cop.is) (Sv.C.var 6) (Sv.C.con (Sv.D.non)))) [Sv.S.raise 7 [Sv.C.con (Sv.D.int 0)]] [], Sv.S.expr (Sv.C.bm (Sv.Bm.append) (Sv.C.var 2) [Sv.C.tup [Sv.C.var 5, Sv.C.var 6]])], Sv.S.ret (Sv.C.bi (Sv.Bi.tuple) [Sv.C.var 2])] }
def f_68 : Fn := { slots := 1, ps := 1, fs := 0, quiet := false, body := [Sv.S.ret (Sv.C.lst [Sv.C.bi (Sv.Bi.list) [Sv.C.slc (Sv.C.var 0) none (some (Sv.C.con (Sv.D.int 63)))], Sv.C.con (Sv.D.int 0), Sv.C.con (Sv.D.int 0)])] }
def f_69 : Fn := { slots := 7, ps := 1, fs := 0, quiet := false, body := [Sv.S.asg (Sv.T.nm 1) (Sv.C.idx (Sv.C.var 0) (Sv.C.con (Sv.D.int 1))), Sv.S.asg (Sv.T.sub (Sv.C.var 0) (Sv.C.con (Sv.D.int 1))) (Sv.C.bin (Sv.Bop.add) (Sv.C.var 1) (Sv.C.con (Sv.D.int 1))), Sv.S.asg (Sv.T.nm 2) (Sv.C.con (Sv.D.int 0)), Sv.S.ifs (Sv.C.cmp (Sv.Cop.ne) (Sv.C.idx (Sv.C.var 0) (Sv.C.con (Sv.D.int 0))) (Sv.C.lst [])) [Sv.S.asg (Sv.T.nm 2) (Sv.C.idx (Sv.C.idx (Sv.C.var 0) (Sv.C.con (Sv.D.int 0))) (Sv.C.bin (Sv.Bop.mod) (Sv.C.var 1) (Sv.C.bi (Sv.Bi.len) [Sv.C.idx (Sv.C.var 0) (Sv.C.con (Sv.D.int 0))])))] [], Sv.S.ifs (Sv.C.and (Sv.C.cmp (Sv.Cop.lt) (Sv.C.var 1) (Sv.C.bi (Sv.Bi.len) [Sv.C.idx (Sv.C.var 0) (Sv.C.con (Sv.D.int 0))])) (Sv.C.cmp (Sv.Cop.ge) (Sv.C.var 2) (Sv.C.bin (Sv.Bop.pow) (Sv.C.con (Sv.D.int 10)) (Sv.C.con (Sv.D.int 18))))) [Sv.S.ret (Sv.C.bin (Sv.Bop.sub) (Sv.C.var 2) (Sv.C.bin (Sv.Bop.pow) (Sv.C.con (Sv.D.int 10)) (Sv.C.con (Sv.D.int 18))))] [], Sv.S.asg (Sv.T.nm 3) (Sv.C.con (Sv.D.int 2305843009213693951)), Sv.S.asg (Sv.T.nm 4) (Sv.C.bin (Sv.Bop.mod) (Sv.C.bin (Sv.Bop.add) (Sv.C.bin (Sv.Bop.add) (Sv.C.bin (Sv.Bop.mul) (Sv.C.var 2) (Sv.C.con (Sv.D.int 48271))) (Sv.C.bin (Sv.Bop.mul) (Sv.C.con (Sv.D.int 40692)) (Sv.C.var 1))) (Sv.C.con (Sv.D.int 31))) (Sv.C.var 3)), Sv.S.asg (Sv.T.nm 5) (Sv.C.var 4), Sv.S.loop (Sv.T.nm 6) (Sv.I.rng1 (Sv.C.con (Sv.D.int 6))) [Sv.S.asg (Sv.T.nm 4) (Sv.C.bin (Sv.Bop.mod) (Sv.C.bin (Sv.Bop.add) (Sv.C.bin (Sv.Bop.add) (Sv.C.bin (Sv.Bop.mul) (Sv.C.var 4) (Sv.C.var 4)) (Sv.C.bin (Sv.Bop.mul) (Sv.C.bin (Sv.Bop.mul) (Sv.C.con (Sv.D.int 69621)) (Sv.C.bin (Sv.Bop.add) (Sv.C.var 6) (Sv.C.con (Sv.D.int 1)))) (Sv.C.bin (Sv.Bop.add) (Sv.C.var 1) (Sv.C.con (Sv.D.int 1))))) (Sv.C.var 2)) (Sv.C.var 3)), Sv.S.asg (Sv.T.nm 5) (Sv.C.bin (Sv.Bop.add) (Sv.C.bin (Sv.Bop.mul) (Sv.C.var 5) (Sv.C.var 3)) (Sv.C.var 4))], Sv.S.ret (Sv.C.var 5)] }
def f_70 : Fn := { slots := 3, ps := 2, fs := 0, quiet := false, body := [Sv.S.ifs (Sv.C.cmp (Sv.Cop.lt) (Sv.C.idx (Sv.C.var 0) (Sv.C.con (Sv.D.int 2))) (Sv.C.var 1)) [Sv.S.asg (Sv.T.sub (Sv.C.var 0) (Sv.C.con (Sv.D.int 2))) (Sv.C.call 69 [Sv.C.var 0])] [], Sv.S.asg (Sv.T.nm 2) (Sv.C.bin (Sv.Bop.mod) (Sv.C.idx (Sv.C.var 0) (Sv.C.con (Sv.D.int 2))) (Sv.C.var 1)), Sv.S.asg (Sv.T.sub (Sv.C.var 0) (Sv.C.con (Sv.D.int 2))) (Sv.C.bin (Sv.Bop.fdiv) (Sv.C.idx (Sv.C.var 0) (Sv.C.con (Sv.D.int 2))) (Sv.C.var 1)), Sv.S.ret (Sv.C.var 2)] }
def f_88 : Fn := { slots := 7, ps := 4, fs := 0, quiet := false, body := [Sv.S.asg (Sv.T.nm 4) (Sv.C.idx (Sv.C.lst [Sv.C.con (Sv.D.int 1), Sv.C.con (Sv.D.int 1), Sv.C.bin (Sv.Bop.pow) (Sv.C.con (Sv.D.int 10)) (Sv.C.con (Sv.D.int 25)), Sv.C.neg (Sv.C.bin (Sv.Bop.pow) (Sv.C.con (Sv.D.int 10)) (Sv.C.con (Sv.D.int 58)))]) (Sv.C.call 70 [Sv.C.var 0, Sv.C.con (Sv.D.int 4)])), Sv.S.asg (Sv.T.nm 5) (Sv.C.lst []), Sv.S.loop (Sv.T.nm 6) (Sv.I.rng1 (Sv.C.call 70 [Sv.C.var 0, Sv.C.bin (Sv.Bop.add) (Sv.C.var 2) (Sv.C.con (Sv.D.int 1))])) [Sv.S.expr (Sv.C.bm (Sv.Bm.append) (Sv.C.var 5) [Sv.C.tup [Sv.C.call 70 [Sv.C.var 0, Sv.C.var 1], Sv.C.bin (Sv.Bop.mul) (Sv.C.bin (Sv.Bop.sub) (Sv.C.call 70 [Sv.C.var 0, Sv.C.var 3]) (Sv.C.con (Sv.D.int 1))) (Sv.C.var 4)]])], Sv.S.ret (Sv.C.bi (Sv.Bi.tuple) [Sv.C.var 5])] }
def f_183 : Fn := { slots := 3, ps := 1, fs := 0, quiet := true, body := [Sv.S.ret (Sv.C.ifx (Sv.C.cmp (Sv.Cop.ne) (Sv.C.var 0) (Sv.C.tup [])) (Sv.C.bm (Sv.Bm.join) (Sv.C.con (Sv.D.str { cps := #[32] })) [Sv.C.lc (Sv.C.bin (Sv.Bop.add) (Sv.C.bin (Sv.Bop.add) (Sv.C.bi (Sv.Bi.str) [Sv.C.var 1]) (Sv.C.con (Sv.D.str { cps := #[58] }))) (Sv.C.bi (Sv.Bi.str) [Sv.C.var 2])) [1, 2] (Sv.T.tp [Sv.T.nm 1, Sv.T.nm 2]) (Sv.I.val (Sv.C.var 0)) none]) (Sv.C.con (Sv.D.str { cps := #[45] })))] }
def f_184 : Fn := { slots := 3, ps := 2, fs := 0, quiet := true, body := [Sv.S.ifs (Sv.C.or (Sv.C.cmp (Sv.Cop.eq) (Sv.C.var 0) (Sv.C.con (Sv.D.str { cps := #[] }))) (Sv.C.or (Sv.C.cmp (Sv.Cop.gt) (Sv.C.bi (Sv.Bi.len) [Sv.C.var 0]) (Sv.C.var 1)) (Sv.C.cmp (Sv.Cop.ne) (Sv.C.lc (Sv.C.var 2) [2] (Sv.T.nm 2) (Sv.I.val (Sv.C.var 0)) (some (Sv.C.cmp (Sv.Cop.notin) (Sv.C.var 2) (Sv.C.con (Sv.D.str { cps := #[48, 49, 50, 51, 52, 53, 54, 55, 56, 57] }))))) (Sv.C.lst [])))) [Sv.S.ret (Sv.C.con (Sv.D.bl false))] [], Sv.S.ret (Sv.C.or (Sv.C.cmp (Sv.Cop.eq) (Sv.C.var 0) (Sv.C.con (Sv.D.str { cps := #[48] }))) (Sv.C.cmp (Sv.Cop.ne) (Sv.C.idx (Sv.C.var 0) (Sv.C.con (Sv.D.int 0))) (Sv.C.con (Sv.D.str { cps := #[48] }))))] }
def f_185 : Fn := { slots := 5, ps := 2, fs := 0, quiet := true, body := [Sv.S.ifs (Sv.C.cmp (Sv.Cop.eq) (Sv.C.var 0) (Sv.C.con (Sv.D.str { cps := #[45] }))) [Sv.S.ret (Sv.C.con (Sv.D.bl true))] [], Sv.S.loop (Sv.T.nm 2) (Sv.I.val (Sv.C.bm (Sv.Bm.split) (Sv.C.var 0) [Sv.C.con (Sv.D.str { cps := #[32] })])) [Sv.S.asg (Sv.T.nm 3) (Sv.C.bm (Sv.Bm.split) (Sv.C.var 2) [Sv.C.con (Sv.D.str { cps := #[58] })]), Sv.S.ifs (Sv.C.or (Sv.C.cmp (Sv.Cop.ne) (Sv.C.bi (Sv.Bi.len) [Sv.C.var 3]) (Sv.C.con (Sv.D.int 2))) (Sv.C.or (Sv.C.not (Sv.C.call 184 [Sv.C.idx (Sv.C.var 3) (Sv.C.con (Sv.D.int 0)), Sv.C.con (Sv.D.int 1)])) (Sv.C.cmp (Sv.Cop.ge) (Sv.C.bi (Sv.Bi.int) [Sv.C.idx (Sv.C.var 3) (Sv.C.con (Sv.D.int 0))]) (Sv.C.var 1)))) [Sv.S.ret (Sv.C.con (Sv.D.bl false))] [], Sv.S.asg (Sv.T.nm 4) (Sv.C.idx (Sv.C.var 3) (Sv.C.con (Sv.D.int 1))), Sv.S.ifs (Sv.C.cmp (Sv.Cop.eq) (Sv.C.slc (Sv.C.var 4) none (some (Sv.C.con (Sv.D.int 1)))) (Sv.C.con (Sv.D.str { cps := #[45] }))) [Sv.S.asg (Sv.T.nm 4) (Sv.C.slc (Sv.C.var 4) (some (Sv.C.con (Sv.D.int 1))) none), Sv.S.ifs (Sv.C.cmp (Sv.Cop.eq) (Sv.C.var 4) (Sv.C.con (Sv.D.str { cps := #[48] }))) [Sv.S.ret (Sv.C.con (Sv.D.bl false))] []] [], Sv.S.ifs (Sv.C.not (Sv.C.call 184 [Sv.C.var 4, Sv.C.con (Sv.D.int 60)])) [Sv.S.ret (Sv.C.con (Sv.D.bl false))] []], Sv.S.ret (Sv.C.con (Sv.D.bl true))] }
def f_177 : Fn := { slots := 4, ps := 2, fs := 0, quiet := true, body := [Sv.S.asg (Sv.T.nm 2) (Sv.C.con (Sv.D.non)), Sv.S.tryx [Sv.S.asg (Sv.T.nm 2) (Sv.C.call 183 [Sv.C.call 182 [Sv.C.var 0, Sv.C.var 1]])] [(7, some 3, [Sv.S.asg (Sv.T.nm 2) (Sv.C.tup [Sv.C.con (Sv.D.str { cps := #[101, 114, 114, 111, 114] }), Sv.C.exf])])], Sv.S.ret (Sv.C.var 2)] }
def f_71 : Fn := { slots := 11, ps := 1, fs := 0, quiet := false, body := [Sv.S.asg (Sv.T.nm 1) (Sv.C.call 68 [Sv.C.var 0]), Sv.S.loop (Sv.T.nm 2) (Sv.I.rng1 (Sv.C.con (Sv.D.int 8))) [Sv.S.asg (Sv.T.nm 3) (Sv.C.bin (Sv.Bop.add) (Sv.C.con (Sv.D.int 1)) (Sv.C.call 70 [Sv.C.var 1, Sv.C.con (Sv.D.int 3)])), Sv.S.asg (Sv.T.nm 4) (Sv.C.call 88 [Sv.C.var 1, Sv.C.var 3, Sv.C.con (Sv.D.int 8), Sv.C.con (Sv.D.int 5)]), Sv.S.ifs (Sv.C.cmp (Sv.Cop.eq) (Sv.C.call 70 [Sv.C.var 1, Sv.C.con (Sv.D.int 3)]) (Sv.C.con (Sv.D.int 0))) [Sv.S.asg (Sv.T.nm 5) (Sv.C.idx (Sv.C.lst [Sv.C.bin (Sv.Bop.sub) (Sv.C.bin (Sv.Bop.pow) (Sv.C.con (Sv.D.int 10)) (Sv.C.con (Sv.D.int 60))) (Sv.C.con (Sv.D.int 1)), Sv.C.bin (Sv.Bop.sub) (Sv.C.con (Sv.D.int 1)) (Sv.C.bin (Sv.Bop.pow) (Sv.C.con (Sv.D.int 10)) (Sv.C.con (Sv.D.int 60))), Sv.C.bin (Sv.Bop.sub) (Sv.C.call 70 [Sv.C.var 1, Sv.C.bin (Sv.Bop.pow) (Sv.C.con (Sv.D.int 10)) (Sv.C.con (Sv.D.int 30))]) (Sv.C.bin (Sv.Bop.mul) (Sv.C.con (Sv.D.int 5)) (Sv.C.bin (Sv.Bop.pow) (Sv.C.con (Sv.D.int 10)) (Sv.C.con (Sv.D.int 29))))]) (Sv.C.call 70 [Sv.C.var 1, Sv.C.con (Sv.D.int 3)])), Sv.S.asg (Sv.T.nm 4) (Sv.C.bin (Sv.Bop.add) (Sv.C.var 4) (Sv.C.tup [Sv.C.tup [Sv.C.con (Sv.D.int 0), Sv.C.var 5]]))] [], Sv.S.ifs (Sv.C.cmp (Sv.Cop.eq) (Sv.C.call 70 [Sv.C.var 1, Sv.C.con (Sv.D.int 6)]) (Sv.C.con (Sv.D.int 0))) [Sv.S.asg (Sv.T.nm 4) (Sv.C.bin (Sv.Bop.mul) (Sv.C.var 4) (Sv.C.con (Sv.D.int 25)))] [], Sv.S.asg (Sv.T.nm 6) (Sv.C.call 183 [Sv.C.var 4]), Sv.S.ifs (Sv.C.cmp (Sv.Cop.ne) (Sv.C.call 180 [Sv.C.var 4]) (Sv.C.var 6)) [Sv.S.ret (Sv.C.con (Sv.D.bl false))] [], Sv.S.ifs (Sv.C.cmp (Sv.Cop.ne) (Sv.C.bi (Sv.Bi.repr) [Sv.C.call 182 [Sv.C.var 6, Sv.C.var 3]]) (Sv.C.bi (Sv.Bi.repr) [Sv.C.var 4])) [Sv.S.ret (Sv.C.con (Sv.D.bl false))] [], Sv.S.asg (Sv.T.nm 7) (Sv.C.call 70 [Sv.C.var 1, Sv.C.bin (Sv.Bop.add) (Sv.C.bi (Sv.Bi.len) [Sv.C.var 6]) (Sv.C.con (Sv.D.int 1))]), Sv.S.asg (Sv.T.nm 8) (Sv.C.idx (Sv.C.con (Sv.D.str { cps := #[32, 48, 49, 50, 51, 52, 53, 54, 55, 56, 57, 58, 45, 95, 10, 9, 43, 97] })) (Sv.C.call 70 [Sv.C.var 1, Sv.C.con (Sv.D.int 18)])), Sv.S.asg (Sv.T.nm 6) (Sv.C.bin (Sv.Bop.add) (Sv.C.bin (Sv.Bop.add) (Sv.C.slc (Sv.C.var 6) none (some (Sv.C.var 7))) (Sv.C.var 8)) (Sv.C.slc (Sv.C.var 6) (some (Sv.C.bin (Sv.Bop.add) (Sv.C.var 7) (Sv.C.call 70 [Sv.C.var 1, Sv.C.con (Sv.D.int 2)]))) none)), Sv.S.asg (Sv.T.nm 9) (Sv.C.ifx (Sv.C.call 185 [Sv.C.var 6, Sv.C.var 3]) (Sv.C.var 6) (Sv.C.tup [Sv.C.con (Sv.D.str { cps := #[101, 114, 114, 111, 114] }), Sv.C.con (Sv.D.int 0)])), Sv.S.ifs (Sv.C.cmp (Sv.Cop.ne) (Sv.C.call 177 [Sv.C.var 6, Sv.C.var 3]) (Sv.C.var 9)) [Sv.S.ret (Sv.C.con (Sv.D.bl false))] []], Sv.S.asg (Sv.T.nm 10) (Sv.C.lst [Sv.C.con (Sv.D.str { cps := #[] }), Sv.C.con (Sv.D.str { cps := #[32] }), Sv.C.con (Sv.D.str { cps := #[45, 45] }), Sv.C.con (Sv.D.str { cps := #[48, 58] }), Sv.C.con (Sv.D.str { cps := #[58, 48] }), Sv.C.con (Sv.D.str { cps := #[48, 58, 45, 48] }), Sv.C.con (Sv.D.str { cps := #[48, 58, 48, 49] }), Sv.C.con (Sv.D.str { cps := #[48, 58, 49, 32] }), Sv.C.con (Sv.D.str { cps := #[32, 48, 58, 49] }), Sv.C.con (Sv.D.str { cps := #[48, 58, 49, 32, 32, 48, 58, 49] })]), Sv.S.asg (Sv.T.nm 10) (Sv.C.bin (Sv.Bop.add) (Sv.C.var 10) (Sv.C.lst [Sv.C.bin (Sv.Bop.add) (Sv.C.con (Sv.D.str { cps := #[48, 58] })) (Sv.C.bin (Sv.Bop.mul) (Sv.C.con (Sv.D.str { cps := #[57] })) (Sv.C.con (Sv.D.int 61))), Sv.C.con (Sv.D.str { cps := #[49, 58, 48] })])), Sv.S.loop (Sv.T.nm 6) (Sv.I.val (Sv.C.var 10)) [Sv.S.ifs (Sv.C.cmp (Sv.Cop.ne) (Sv.C.call 177 [Sv.C.var 6, Sv.C.con (Sv.D.int 1)]) (Sv.C.tup [Sv.C.con (Sv.D.str { cps := #[101, 114, 114, 111, 114] }), Sv.C.con (Sv.D.int 0)])) [Sv.S.ret (Sv.C.con (Sv.D.bl false))] []], Sv.S.asg (Sv.T.nm 10) (Sv.C.lst [Sv.C.bin (Sv.Bop.add) (Sv.C.con (Sv.D.str { cps := #[48, 58] })) (Sv.C.bin (Sv.Bop.mul) (Sv.C.con (Sv.D.str { cps := #[55] })) (Sv.C.con (Sv.D.int 4400))), Sv.C.bin (Sv.Bop.add) (Sv.C.bin (Sv.Bop.mul) (Sv.C.con (Sv.D.str { cps := #[55] })) (Sv.C.con (Sv.D.int 4400))) (Sv.C.con (Sv.D.str { cps := #[58, 48] })), Sv.C.bin (Sv.Bop.add) (Sv.C.con (Sv.D.str { cps := #[48, 58, 45] })) (Sv.C.bin (Sv.Bop.mul) (Sv.C.con (Sv.D.str { cps := #[55] })) (Sv.C.con (Sv.D.int 4400))), Sv.C.con (Sv.D.str { cps := #[48, 58, 49, 95, 48] }), Sv.C.con (Sv.D.str { cps := #[48, 58, 49, 10] }), Sv.C.con (Sv.D.str { cps := #[48, 58, 49, 58, 49] }), Sv.C.con (Sv.D.str { cps := #[51, 58, 48] })]), Sv.S.loop (Sv.T.nm 6) (Sv.I.val (Sv.C.var 10)) [Sv.S.ifs (Sv.C.cmp (Sv.Cop.ne) (Sv.C.call 177 [Sv.C.var 6, Sv.C.con (Sv.D.int 3)]) (Sv.C.tup [Sv.C.con (Sv.D.str { cps := #[101, 114, 114, 111, 114] }), Sv.C.con (Sv.D.int 0)])) [Sv.S.ret (Sv.C.con (Sv.D.bl false))] []], Sv.S.ret (Sv.C.cmp (Sv.Cop.eq) (Sv.C.call 177 [Sv.C.bin (Sv.Bop.add) (Sv.C.con (Sv.D.str { cps := #[48, 58] })) (Sv.C.bin (Sv.Bop.mul) (Sv.C.con (Sv.D.str { cps := #[57] })) (Sv.C.con (Sv.D.int 60))), Sv.C.con (Sv.D.int 1)]) (Sv.C.bin (Sv.Bop.add) (Sv.C.con (Sv.D.str { cps := #[48, 58] })) (Sv.C.bin (Sv.Bop.mul) (Sv.C.con (Sv.D.str { cps := #[57] })) (Sv.C.con (Sv.D.int 60)))))] }
def F : Nat → Option Fn := fun id => (([(180, f_180), (156, f_156), (181, f_181), (182, f_182), (68, f_68), (69, f_69), (70, f_70), (88, f_88), (183, f_183), (184, f_184), (185, f_185), (177, f_177), (71, f_71)] : List (Nat × Fn))).lookup id
end Sv.Lw
end -- Fnk77
section -- Pl2
set_option Elab.async false
set_option linter.all false
set_option maxRecDepth 100000
set_option maxHeartbeats 4000000
namespace Sv.Lw
open PySem (Str PyData)
theorem look_new (fr lv : Sto) (o : O) : look fr (lv ++ [o]) (fr.length + lv.length) = some o := by
  unfold look
  rw [← List.append_assoc, List.getElem?_append_right (by simp)]
  simp
theorem bools_map {α : Type} (f : α → Bool) : ∀ xs : List α, boolsOf (xs.map fun x => D.bl (f x)) = some (xs.map f)
  | [] => rfl
  | x :: xs => by simp only [List.map_cons, boolsOf, bools_map f xs, Option.map_some]
theorem lc_dig (G : Orc) (fr : Sto) (cs : List Nat) (m : Option D) (s : Sto) :
    ev G fr [] none (.lc (.cmp .isin (.var 2) (.con (.str DIG))) [2] (.nm 2) (.val (.var 0)) none) [some (.str (Tx cs)), m, none] s = newL fr s (cs.map fun c => .bl (isDig c)) := by
  simp only [ev, evI, varD, List.getElem?_cons_zero, Option.some.injEq, of_ok, bnd_ok, stays, Bool.not_true, if_false, Bool.false_eq_true]
  rw [lcL_pure (f := fun d => match d with
    | .str z => some (.bl ((z.cps[0]?.map isDig).getD false))
    | _ => none) rfl]
  · simp only [R.noex, bnd_ok, unlockS]
    congr 1
    induction cs with
    | nil => rfl
    | cons c cs ih => simpa using ih
  · intro d hd
    simp only [List.mem_map] at hd
    obtain ⟨c, _, rfl⟩ := hd
    simp [asgN, wipe, evs, bnd_ok, varD, of_ok, cop, in_dig]
theorem all_dig (G : Orc) (fr : Sto) (cs : List Nat) (m : Option D) (s : Sto) (h : cs.length ≤ 60) :
    ∃ s2, ev G fr [] none (.bi .all [.lc (.cmp .isin (.var 2) (.con (.str DIG))) [2] (.nm 2) (.val (.var 0)) none]) [some (.str (Tx cs)), m, none] s = .ok (.bl (cs.all isDig)) s2 := by
  refine ⟨s ++ [.lst (cs.map fun c => .bl (isDig c))], ?_⟩
  have hl : (cs.map fun c => D.bl (isDig c)).length ≤ lineMax := by rw [List.length_map]; unfold lineMax; omega
  rw [ev, evs, lc_dig]
  unfold newL
  rw [if_pos hl]
  simp only [new, bnd_ok, evs, bi, listAt, look_new, bools_map, Option.map_some, of_ok]
  congr 2
  induction cs with
  | nil => rfl
  | cons c cs ih => simp
end Sv.Lw
end -- Pl2
section -- Pl3
set_option Elab.async false
set_option linter.all false
set_option maxRecDepth 100000
set_option maxHeartbeats 4000000
namespace Sv.Lw
open PySem (Str PyData)
theorem intS_dig {cs : List Nat} (h0 : cs ≠ []) (hd : cs.all isDig = true) (hl : cs.length ≤ 640) : intS (Tx cs) = some (valN cs : Int) := by
  unfold intS
  rw [Tx_len, if_pos hl]
  have hc : (Tx cs).cps.toList = cs := by simp
  rw [hc]
  have dn : digitsNat cs = some (valN cs) := by
    unfold digitsNat
    have : cs.isEmpty = false := by cases cs <;> first | exact absurd rfl h0 | rfl
    rw [this, if_neg Bool.false_ne_true]
    have : (cs.all fun c => decide (48 ≤ c) && decide (c ≤ 57)) = true := hd
    rw [if_pos this]
    rfl
  split
  · rename_i r
    simp only [List.all_cons, Bool.and_eq_true] at hd
    exact absurd hd.1 (by decide)
  · rw [dn]; rfl
theorem len_str (G : Orc) (fr lv : Sto) (z : Str) (h : z.length ≤ lineMax) : lenR G fr lv (.str z) = .ok (.int z.length) lv := by
  simp only [lenR, insAt, lenD, h, if_true, Option.map_some, of_ok]
/-- a quiet def's end -/
theorem endQ_rt (n : Nat) (lv : Sto) (ρ : Env) (v : D) (s : Sto) (h : D.old n v = true) : endQ n lv (.ok ρ (.rt v) s) = .ok v lv := by
  simp only [endQ, h, if_true]
theorem numIn_old (n : Nat) (cs : List Nat) (m : Int) : D.old n (numIn cs m) = true := by
  unfold numIn
  split <;> rfl
theorem eq_str (fr lv : Sto) (a b : List Nat) : cop fr lv .eq (.str (Tx a)) (.str (Tx b)) = some (decide (a = b)) := by
  show some (Tx a == Tx b) = _
  rw [Tx_beq]
theorem ne_str (fr lv : Sto) (a b : List Nat) : cop fr lv .ne (.str (Tx a)) (.str (Tx b)) = some (!decide (a = b)) := by
  show (some (Tx a == Tx b)).map _ = _
  rw [Tx_beq]
  rfl
theorem gt_int (fr lv : Sto) (a b : Int) : cop fr lv .gt (.int a) (.int b) = some (decide (b < a)) := rfl
theorem le_int (fr lv : Sto) (a b : Int) : cop fr lv .le (.int a) (.int b) = some (decide (a ≤ b)) := rfl
theorem idx_0 (fr lv : Sto) (c : Nat) (cs : List Nat) (h : (c :: cs).length ≤ lineMax) : idxD fr lv (.str (Tx (c :: cs))) (.int 0) = some (.str (Tx [c])) := by
  show (if (Tx (c :: cs)).length ≤ lineMax then _ else _) = _
  rw [Tx_len, if_pos h]
  simp [intOf, atI]
/-- the first test -/
theorem num_g1 (G : Orc) (fr : Sto) (cs : List Nat) (m : D) (hl : cs.length ≤ lineMax) : ∃ s, ev G fr [] none (.or (.cmp .eq (.var 0) (.con (.str (Tx [])))) (.or (.cmp .gt (.bi .len [.var 0]) (.con (.int 60))) (.not (.bi .all [.lc (.cmp .isin (.var 2) (.con (.str DIG))) [2] (.nm 2) (.val (.var 0)) none]))))
    [some (.str (Tx cs)), some m, none] [] = .ok (.bl (!(!cs.isEmpty && decide (cs.length ≤ 60) && cs.all isDig))) s := by
  by_cases h0 : cs = []
  · subst h0
    exact ⟨[], by rw [ev_orT (ev_cmp (ev_var rfl) ev_con (by rw [eq_str]; rfl))]; rfl⟩
  have e0 : cs.isEmpty = false := by cases cs <;> first | exact absurd rfl h0 | rfl
  have c0 : ev G fr [] none (.cmp .eq (.var 0) (.con (.str (Tx [])))) [some (.str (Tx cs)), some m, none] [] = .ok (.bl false) [] := ev_cmp (ev_var rfl) ev_con (by rw [eq_str, decide_eq_false h0])
  by_cases h1 : cs.length ≤ 60
  case neg =>
    refine ⟨[], ?_⟩
    rw [ev_orF c0, ev_orT (s1 := []) (ev_cmp (x := .int cs.length) (by rw [ev_len (ev_var rfl), len_str _ _ _ _ (by rw [Tx_len]; exact hl), Tx_len]) ev_con (by rw [gt_int, decide_eq_true (by omega)]))]
    rw [e0, decide_eq_false h1]
    rfl
  obtain ⟨s2, ha⟩ := all_dig G fr cs (some m) [] h1
  refine ⟨s2, ?_⟩
  rw [ev_orF c0, ev_orF (s1 := []) (ev_cmp (x := .int cs.length) (by rw [ev_len (ev_var rfl), len_str _ _ _ _ (by rw [Tx_len]; exact hl), Tx_len]) ev_con (by rw [gt_int, decide_eq_false (by omega)])), ev_not ha, e0, decide_eq_true h1]
  rfl
theorem num_in (G : Orc) (fr lv : Sto) (cs : List Nat) (most : Int) (hl : cs.length ≤ lineMax) : runFn G f_156 [.str (Tx cs), .int most] [] fr lv = .ok (numIn cs most) lv := by
  suffices h : ∃ ρ s, execs G (fr ++ lv) [] none f_156.body [some (.str (Tx cs)), some (.int most), none] [] = .ok ρ (.rt (numIn cs most)) s by
    obtain ⟨ρ, s, e⟩ := h
    have : runFn G f_156 [.str (Tx cs), .int most] [] fr lv = endQ (fr.length + lv.length) lv (execs G (fr ++ lv) [] none f_156.body [some (.str (Tx cs)), some (.int most), none] []) := rfl
    rw [this, e, endQ_rt _ _ _ _ _ (numIn_old _ _ _)]
  obtain ⟨s1, g1⟩ := num_g1 G (fr ++ lv) cs (.int most) hl
  refine ⟨[some (.str (Tx cs)), some (.int most), none], s1, ?_⟩
  show execs G (fr ++ lv) [] none (_ :: _ :: _ :: []) _ _ = _
  cases hg : (!cs.isEmpty && decide (cs.length ≤ 60) && cs.all isDig) with
  | false =>
    rw [hg] at g1
    have : numIn cs most = .non := by
      unfold numIn isNum
      rw [hg]
      simp
    rw [this]
    exact exs_rt ((ex_ifT g1).trans (exs_rt (ex_ret ev_con)))
  | true =>
    rw [hg] at g1
    simp only [Bool.and_eq_true, decide_eq_true_eq, Bool.not_eq_true'] at hg
    obtain ⟨⟨h0, h1⟩, hd⟩ := hg
    refine (exs_nx ((ex_ifF g1).trans exs_nil)).trans ?_
    match cs, h0, hl, hd, h1 with
    | c :: r, _, hl, hd, h1 =>
    have i0 : ev G (fr ++ lv) [] none (.cmp .eq (.idx (.var 0) (.con (.int 0))) (.con (.str (Tx [48])))) [some (.str (Tx (c :: r))), some (.int most), none] s1 = .ok (.bl (decide ([c] = [48]))) s1 := ev_cmp (ev_idx (ev_var rfl) ev_con (idx_0 _ _ _ _ hl)) ev_con (eq_str _ _ _ _)
    have iv : intS (Tx (c :: r)) = some (valN (c :: r) : Int) := intS_dig (by simp) hd (by omega)
    have ib : ev G (fr ++ lv) [] none (.bi .int [.var 0]) [some (.str (Tx (c :: r))), some (.int most), none] s1 = .ok (.int (valN (c :: r))) s1 := by
      rw [ev_bi1 (by decide) (ev_var rfl)]
      simp only [bi, iv, Option.map_some, of_ok]
    have last : ∀ (hz : isNum 60 (c :: r) = true), execs G (fr ++ lv) [] none [.ret (.ifx (.cmp .le (.bi .int [.var 0]) (.var 1)) (.bi .int [.var 0]) (.con .non))] [some (.str (Tx (c :: r))), some (.int most), none] s1 = .ok [some (.str (Tx (c :: r))), some (.int most), none] (.rt (numIn (c :: r) most)) s1 := fun hz => by
      refine exs_rt (ex_ret ?_)
      have cc := ev_cmp (φ := []) (η := none) ib (ev_var (i := 1) (x := .int most) rfl) (le_int (fr ++ lv) s1 _ _)
      by_cases hm : (valN (c :: r) : Int) ≤ most
      · rw [decide_eq_true hm] at cc
        rw [ev_ifT cc, ib]
        unfold numIn
        rw [if_pos ⟨hz, hm⟩]
      · rw [decide_eq_false hm] at cc
        rw [ev_ifF cc, ev_con]
        unfold numIn
        rw [if_neg fun z => hm z.2]
    by_cases hc : c = 48
    · subst hc
      rw [decide_eq_true rfl] at i0
      have n0 : ev G (fr ++ lv) [] none (.cmp .ne (.var 0) (.con (.str (Tx [48])))) [some (.str (Tx (48 :: r))), some (.int most), none] s1 = .ok (.bl (!decide ((48 :: r) = [48]))) s1 := ev_cmp (ev_var rfl) ev_con (ne_str _ _ _ _)
      by_cases hr : (48 :: r) = [48]
      · rw [decide_eq_true hr] at n0
        refine (exs_nx ((ex_ifF ((ev_andT i0).trans n0)).trans exs_nil)).trans ?_
        exact last (by rw [hr]; decide)
      · rw [decide_eq_false hr] at n0
        have : numIn (48 :: r) most = .non := by
          unfold numIn isNum
          rw [decide_eq_false hr]
          simp
        rw [this]
        exact exs_rt ((ex_ifT ((ev_andT i0).trans n0)).trans (exs_rt (ex_ret ev_con)))
    · rw [decide_eq_false (by simpa using hc)] at i0
      refine (exs_nx ((ex_ifF (ev_andF i0)).trans exs_nil)).trans ?_
      refine last ?_
      unfold isNum
      rw [hd, decide_eq_true h1]
      simp [hc]
end Sv.Lw
end -- Pl3
section -- Pl4
set_option Elab.async false
set_option linter.all false
set_option maxRecDepth 100000
set_option maxHeartbeats 4000000
namespace Sv.Lw
open PySem (Str PyData)
def MAXV : Int := 999999999999999999999999999999999999999999999999999999999999
def valIn (cs : List Nat) : D := if cs.take 1 = [45] then (match numIn (cs.drop 1) MAXV with
  | .int n => if n = 0 then .non else .int (-n)
  | _ => .non) else numIn cs MAXV
/-- number_in is there -/
def HasNum (G : Orc) : Prop := ∀ (cs : List Nat) (m : Int) (fr lv : Sto), cs.length ≤ lineMax → G.call 156 [.str (Tx cs), .int m] [] fr lv = .ok (numIn cs m) lv
theorem slc_to1 {G : Orc} {fr : Sto} {a : C} {ρ : Env} {lv s : Sto} {cs : List Nat} (h : ev G fr [] none a ρ lv = .ok (.str (Tx cs)) s) (hl : cs.length ≤ lineMax) : ev G fr [] none (.slc a none (some (.con (.int 1)))) ρ lv = .ok (.str (Tx (cs.take 1))) s := by
  simp only [ev, evo, h, bnd_ok, slcD, okI, Bool.true_and]
  have : (decide (-(2 ^ 62) < (1 : Int) ∧ (1 : Int) < 2 ^ 62)) = true := by decide
  rw [this, if_pos rfl, Tx_len, if_pos hl]
  congr 4
  unfold cutL clampI
  cases cs with
  | nil => rfl
  | cons c r =>
    have : min (1 : Int).toNat (c :: r).length = 1 := by simp
    simp
theorem slc_from1 {G : Orc} {fr : Sto} {a : C} {ρ : Env} {lv s : Sto} {cs : List Nat} (h : ev G fr [] none a ρ lv = .ok (.str (Tx cs)) s) (hl : cs.length ≤ lineMax) : ev G fr [] none (.slc a (some (.con (.int 1))) none) ρ lv = .ok (.str (Tx (cs.drop 1))) s := by
  simp only [ev, evo, h, bnd_ok, slcD, okI, Bool.and_true]
  have : (decide (-(2 ^ 62) < (1 : Int) ∧ (1 : Int) < 2 ^ 62)) = true := by decide
  rw [this, if_pos rfl, Tx_len, if_pos hl]
  congr 4
  unfold cutL clampI
  cases cs with
  | nil => rfl
  | cons c r => simp
theorem is_non (fr lv : Sto) (d : D) : cop fr lv .is d .non = some (match d with
  | .non => true
  | _ => false) := by
  cases d <;> rfl
theorem eq_int (fr lv : Sto) (a b : Int) : cop fr lv .eq (.int a) (.int b) = some (decide (a = b)) := by
  show some (a == b) = _
  congr 1
theorem numIn_cases (cs : List Nat) (m : Int) : numIn cs m = .non ∨ ∃ n : Nat, numIn cs m = .int n := by
  unfold numIn
  split
  · exact .inr ⟨_, rfl⟩
  · exact .inl rfl
theorem valIn_old (n : Nat) (cs : List Nat) : D.old n (valIn cs) = true := by
  unfold valIn
  split
  · split
    · split <;> rfl
    · rfl
  · exact numIn_old _ _ _
theorem val_in (G : Orc) (hG : HasNum G) (fr lv : Sto) (cs : List Nat) (hl : cs.length ≤ lineMax) : runFn G f_181 [.str (Tx cs)] [] fr lv = .ok (valIn cs) lv := by
  suffices h : ∃ ρ s, execs G (fr ++ lv) [] none f_181.body [some (.str (Tx cs)), none] [] = .ok ρ (.rt (valIn cs)) s by
    obtain ⟨ρ, s, e⟩ := h
    have : runFn G f_181 [.str (Tx cs)] [] fr lv = endQ (fr.length + lv.length) lv (execs G (fr ++ lv) [] none f_181.body [some (.str (Tx cs)), none] []) := rfl
    rw [this, e, endQ_rt _ _ _ _ _ (valIn_old _ _)]
  have g : ev G (fr ++ lv) [] none (.cmp .ne (.slc (.var 0) none (some (.con (.int 1)))) (.con (.str (Tx [45])))) [some (.str (Tx cs)), none] [] = .ok (.bl (!decide (cs.take 1 = [45]))) [] := ev_cmp (slc_to1 (ev_var rfl) hl) ev_con (ne_str _ _ _ _)
  by_cases h : cs.take 1 = [45]
  case neg =>
    rw [decide_eq_false h] at g
    refine ⟨[some (.str (Tx cs)), none], [], ?_⟩
    have : valIn cs = numIn cs MAXV := by unfold valIn; rw [if_neg h]
    rw [this]
    exact exs_rt ((ex_ifT g).trans (exs_rt (ex_ret ((ev_call (evs_cons (ev_var rfl) (evs_cons ev_con evs_nil))).trans (hG _ _ _ _ hl)))))
  rw [decide_eq_true h] at g
  have c1 : ev G (fr ++ lv) [] none (.call 156 [.slc (.var 0) (some (.con (.int 1))) none, .con (.int MAXV)]) [some (.str (Tx cs)), none] [] = .ok (numIn (cs.drop 1) MAXV) [] :=
    (ev_call (evs_cons (slc_from1 (ev_var rfl) hl) (evs_cons ev_con evs_nil))).trans (hG _ _ _ _ (by rw [List.length_drop]; omega))
  refine ⟨[some (.str (Tx cs)), some (numIn (cs.drop 1) MAXV)], [], ?_⟩
  refine (exs_nx ((ex_ifF g).trans exs_nil)).trans ((exs_nx (ex_asg c1 (by simp))).trans (exs_rt (ex_ret ?_)))
  have hv : valIn cs = match numIn (cs.drop 1) MAXV with
    | .int n => if n = 0 then .non else .int (-n)
    | _ => .non := by unfold valIn; rw [if_pos h]
  rw [hv]
  have i1 := ev_cmp (G := G) (fr := fr ++ lv) (φ := []) (η := none) (lv := []) (ev_var (ρ := [some (.str (Tx cs)), some (numIn (cs.drop 1) MAXV)]) (i := 1) rfl) (ev_con (x := .non)) (is_non (fr ++ lv) [] (numIn (cs.drop 1) MAXV))
  rcases numIn_cases (cs.drop 1) MAXV with e | ⟨n, e⟩
  · rw [e] at i1 ⊢
    exact (ev_ifT (ev_orT i1)).trans ev_con
  · rw [e] at i1 ⊢
    have i2 := ev_cmp (G := G) (fr := fr ++ lv) (φ := []) (η := none) (lv := []) (ev_var (ρ := [some (.str (Tx cs)), some (.int (n : Int))]) (i := 1) rfl) (ev_con (x := .int 0)) (eq_int (fr ++ lv) [] n 0)
    by_cases hz : (n : Int) = 0
    · rw [decide_eq_true hz] at i2
      show _ = R.ok (if (n : Int) = 0 then _ else _) _
      rw [if_pos hz]
      exact (ev_ifT ((ev_orF i1).trans i2)).trans ev_con
    · rw [decide_eq_false hz] at i2
      show _ = R.ok (if (n : Int) = 0 then _ else _) _
      rw [if_neg hz]
      exact (ev_ifF ((ev_orF i1).trans i2)).trans (ev_neg (ev_var rfl))
end Sv.Lw
end -- Pl4
section -- Pl5
set_option Elab.async false
set_option linter.all false
set_option maxRecDepth 100000
set_option maxHeartbeats 4000000
set_option exponentiation.threshold 3000
namespace Sv.Lw
open PySem (Str PyData)
/-- the place k of the living store -/
theorem look_at (fr lv : Sto) (k : Nat) : look fr lv (fr.length + k) = lv[k]? := by
  unfold look
  rw [List.getElem?_append_right (by omega)]
  congr 1
  omega
theorem put_at (fr lv : Sto) (k : Nat) (o : O) (h : k < lv.length) : put fr lv (fr.length + k) o = some (lv.set k o) := by
  unfold put
  rw [if_pos ⟨by omega, by omega⟩]
  congr 2
  omega
/-- a text split -/
theorem ev_split {G : Orc} {fr : Sto} {η : Option (Nat × List D)} {a : C} {ρ : Env} {lv s : Sto} {cs : List Nat} {sep : Nat} (h : ev G fr [] η a ρ lv = .ok (.str (Tx cs)) s) (hs : sep < 256) (hl : cs.length ≤ 30000) (hn : (splitL sep cs).length ≤ lineMax) :
    ev G fr [] η (.bm .split a [.con (.str (Tx [sep]))]) ρ lv = .ok (.ref (fr.length + s.length)) (s ++ [.lst ((splitL sep cs).map fun w => .str (Tx w))]) := by
  simp only [ev, evs, h, bnd_ok, kindD, okBm, BEq.rfl, if_true, bm]
  rw [if_pos ⟨hs, by rw [Tx_len]; exact hl⟩]
  unfold newL
  rw [if_pos (by rw [List.length_map]; exact hn)]
  rfl
theorem splitL_len (sep : Nat) : ∀ cs : List Nat, (splitL sep cs).length ≤ cs.length + 1
  | [] => by simp [splitL]
  | c :: r => by
    have := splitL_len sep r
    unfold splitL
    split
    · simp only [List.length_cons]; omega
    · split
      · rename_i w ws e
        rw [e] at this
        simp only [List.length_cons] at this ⊢
        omega
      · simp
theorem splitL_ne (sep : Nat) (cs : List Nat) : splitL sep cs ≠ [] := by
  cases cs with
  | nil => simp [splitL]
  | cons c r =>
    unfold splitL
    split
    · simp
    · split <;> simp
theorem splitL_part (sep : Nat) : ∀ (cs w : List Nat), w ∈ splitL sep cs → w.length ≤ cs.length
  | [], w, h => by simp [splitL] at h; simp [h]
  | c :: r, w, h => by
    unfold splitL at h
    split at h
    · rcases List.mem_cons.mp h with rfl | h
      · simp
      · have := splitL_part sep r w h
        simp only [List.length_cons]; omega
    · split at h
      · rename_i v vs e
        rcases List.mem_cons.mp h with rfl | h
        · have := splitL_part sep r v (by rw [e]; simp)
          simp only [List.length_cons]; omega
        · have := splitL_part sep r w (by rw [e]; simp [h])
          simp only [List.length_cons]; omega
      · simp at h
        subst h
        simp
theorem idx_list {fr lv : Sto} {l : Nat} {xs : List D} (h : look fr lv l = some (.lst xs)) (i : Int) : idxD fr lv (.ref l) (.int i) = atI xs i := by
  simp only [idxD, listAt, h, intOf, Option.bind_some]
/-! ### a part word:value -/
def isNon : D → Bool
  | .non => true
  | _ => false
def partD (many : Int) (p : List Nat) : D × D := (numIn ((splitL 58 p).headD []) (many - 1), if (splitL 58 p).length = 2 then valIn ((splitL 58 p).getD 1 []) else .non)
def partOk (many : Int) (p : List Nat) : Bool := !(isNon (partD many p).1 || isNon (partD many p).2)
def HasVal (G : Orc) : Prop := ∀ (cs : List Nat) (fr lv : Sto), cs.length ≤ lineMax → G.call 181 [.str (Tx cs)] [] fr lv = .ok (valIn cs) lv
def pBody : List S := [.asg (.nm 4) (.bm .split (.var 3) [.con (.str (Tx [58]))]), .asg (.nm 5) (.call 156 [.idx (.var 4) (.con (.int 0)), .bin .sub (.var 1) (.con (.int 1))]),
  .asg (.nm 6) (.ifx (.cmp .eq (.bi .len [.var 4]) (.con (.int 2))) (.call 181 [.idx (.var 4) (.con (.int 1))]) (.con .non)), .ifs (.or (.cmp .is (.var 5) (.con .non)) (.cmp .is (.var 6) (.con .non))) [.raise 7 [.con (.int 0)]] [],
  .expr (.bm .append (.var 2) [.tup [.var 5, .var 6]])]
theorem p_turn (G : Orc) (h1 : HasNum G) (h2 : HasVal G) (fr : Sto) (p : List Nat) (many : Int) (tx x4 x5 x6 : Option D) (fs : List D) (all : O) (g : Sto) (hp : p.length ≤ 30000) (hf : fs.length < lineMax) :
    ∃ g', execs G fr [] none pBody [tx, some (.int many), some (.ref fr.length), some (.str (Tx p)), x4, x5, x6] (.lst fs :: all :: g) =
      if partOk many p then .ok [tx, some (.int many), some (.ref fr.length), some (.str (Tx p)), some (.ref (fr.length + (g.length + 2))), some (partD many p).1, some (partD many p).2] .nx (.lst (fs ++ [.tup [(partD many p).1, (partD many p).2]]) :: all :: g')
      else .ex 7 [.int 0] [tx, some (.int many), some (.ref fr.length), some (.str (Tx p)), some (.ref (fr.length + (g.length + 2))), some (partD many p).1, some (partD many p).2] (.lst fs :: all :: g') := by
  have lm : ∀ {n : Nat}, n ≤ 30001 → n ≤ lineMax := fun h => Nat.le_trans h (by unfold lineMax; omega)
  obtain ⟨sd, hsd⟩ : ∃ sd, sd = splitL 58 p := ⟨_, rfl⟩
  have hn : sd.length ≤ 30001 := by rw [hsd]; exact Nat.le_trans (splitL_len _ _) (by omega)
  have hpt : ∀ w ∈ sd, w.length ≤ lineMax := fun w hw => lm (Nat.le_trans (splitL_part 58 p w (by rw [← hsd]; exact hw)) (by omega))
  obtain ⟨s1, hs1⟩ : ∃ s1 : Sto, s1 = (.lst fs :: all :: g) ++ [.lst (sd.map fun w => .str (Tx w))] := ⟨_, rfl⟩
  refine ⟨g ++ [.lst (sd.map fun w => .str (Tx w))], ?_⟩
  have e1 : exec G fr [] none (.asg (.nm 4) (.bm .split (.var 3) [.con (.str (Tx [58]))])) [tx, some (.int many), some (.ref fr.length), some (.str (Tx p)), x4, x5, x6] (.lst fs :: all :: g) =
      .ok [tx, some (.int many), some (.ref fr.length), some (.str (Tx p)), some (.ref (fr.length + (g.length + 2))), x5, x6] .nx s1 := by
    rw [hs1, hsd]
    exact ex_asg (ev_split (ev_var rfl) (by decide) hp (by rw [← hsd]; exact lm hn)) (by simp)
  have lk : look fr s1 (fr.length + (g.length + 2)) = some (.lst (sd.map fun w => .str (Tx w))) := by
    rw [hs1]
    exact look_new fr (.lst fs :: all :: g) _
  have hd0 : ∃ w0 r, sd = w0 :: r := by
    cases e : sd with
    | nil => rw [e] at hsd; exact absurd hsd.symm (splitL_ne _ _)
    | cons w0 r => exact ⟨w0, r, rfl⟩
  obtain ⟨w0, r, esd⟩ := hd0
  have p1 : (partD many p).1 = numIn w0 (many - 1) := by unfold partD; rw [← hsd, esd]; rfl
  have e2 : exec G fr [] none (.asg (.nm 5) (.call 156 [.idx (.var 4) (.con (.int 0)), .bin .sub (.var 1) (.con (.int 1))])) [tx, some (.int many), some (.ref fr.length), some (.str (Tx p)), some (.ref (fr.length + (g.length + 2))), x5, x6] s1 =
      .ok [tx, some (.int many), some (.ref fr.length), some (.str (Tx p)), some (.ref (fr.length + (g.length + 2))), some (partD many p).1, x6] .nx s1 := by
    rw [p1]
    refine ex_asg ?_ (by simp)
    refine (ev_call (evs_cons (ev_idx (z := .str (Tx w0)) (ev_var rfl) ev_con ?_) (evs_cons ((ev_bin (x := .int many) (y := .int 1) (ev_var rfl) ev_con).trans rfl) evs_nil))).trans (h1 _ _ _ _ (hpt w0 (by rw [esd]; simp)))
    rw [idx_list lk, esd]
    rfl
  have hlen : ev G fr [] none (.cmp .eq (.bi .len [.var 4]) (.con (.int 2))) [tx, some (.int many), some (.ref fr.length), some (.str (Tx p)), some (.ref (fr.length + (g.length + 2))), some (partD many p).1, x6] s1 = .ok (.bl (decide ((sd.length : Int) = 2))) s1 := by
    refine ev_cmp (x := .int sd.length) ?_ ev_con (eq_int _ _ _ _)
    rw [ev_len (ev_var rfl)]
    simp only [lenR, insAt, lk, lenD, itemsOf, listAt, Option.map_some, of_ok, List.length_map]
  have e3 : exec G fr [] none (.asg (.nm 6) (.ifx (.cmp .eq (.bi .len [.var 4]) (.con (.int 2))) (.call 181 [.idx (.var 4) (.con (.int 1))]) (.con .non))) [tx, some (.int many), some (.ref fr.length), some (.str (Tx p)), some (.ref (fr.length + (g.length + 2))), some (partD many p).1, x6] s1 =
      .ok [tx, some (.int many), some (.ref fr.length), some (.str (Tx p)), some (.ref (fr.length + (g.length + 2))), some (partD many p).1, some (partD many p).2] .nx s1 := by
    refine ex_asg ?_ (by simp)
    by_cases h : sd.length = 2
    · rw [decide_eq_true (by omega)] at hlen
      refine (ev_ifT hlen).trans ?_
      match r, esd with
      | [], esd => rw [esd] at h; simp at h
      | w1 :: r, esd =>
        have p2 : (partD many p).2 = valIn w1 := by unfold partD; rw [← hsd, if_pos h, esd]; rfl
        rw [p2]
        refine (ev_call (evs_cons (ev_idx (z := .str (Tx w1)) (ev_var rfl) ev_con ?_) evs_nil)).trans (h2 _ _ _ (hpt w1 (by rw [esd]; simp)))
        rw [idx_list lk, esd]
        rfl
    · rw [decide_eq_false (by omega)] at hlen
      have p2 : (partD many p).2 = .non := by unfold partD; rw [← hsd, if_neg h]
      rw [p2]
      exact (ev_ifF hlen).trans ev_con
  refine (exs_nx e1).trans ((exs_nx e2).trans ((exs_nx e3).trans ?_))
  obtain ⟨a, ha⟩ : ∃ a, a = (partD many p).1 := ⟨_, rfl⟩
  obtain ⟨b, hb⟩ : ∃ b, b = (partD many p).2 := ⟨_, rfl⟩
  unfold partOk
  rw [← ha, ← hb]
  have n1 : ev G fr [] none (.cmp .is (.var 5) (.con .non)) [tx, some (.int many), some (.ref fr.length), some (.str (Tx p)), some (.ref (fr.length + (g.length + 2))), some a, some b] s1 = .ok (.bl (isNon a)) s1 := ev_cmp (ev_var rfl) ev_con (is_non _ _ _)
  have n2 : ev G fr [] none (.cmp .is (.var 6) (.con .non)) [tx, some (.int many), some (.ref fr.length), some (.str (Tx p)), some (.ref (fr.length + (g.length + 2))), some a, some b] s1 = .ok (.bl (isNon b)) s1 := ev_cmp (ev_var rfl) ev_con (is_non _ _ _)
  have bad : ∀ ρ : Env, exec G fr [] none (.raise 7 [.con (.int 0)]) ρ s1 = .ex 7 [.int 0] ρ s1 := fun ρ => by
    simp only [exec, evs, ev, bnd_ok, rs_ok]
    rw [if_pos (by decide)]
  cases na : isNon a with
  | true =>
    rw [na] at n1
    rw [Bool.true_or, Bool.not_true, if_neg Bool.false_ne_true]
    refine (exs_ex ((ex_ifT (ev_orT n1)).trans (exs_ex (bad _)))).trans ?_
    rw [hs1]
    rfl
  | false =>
    rw [na] at n1
    cases nb : isNon b with
    | true =>
      rw [nb] at n2
      rw [Bool.false_or, Bool.not_true, if_neg Bool.false_ne_true]
      refine (exs_ex ((ex_ifT ((ev_orF n1).trans n2)).trans (exs_ex (bad _)))).trans ?_
      rw [hs1]
      rfl
    | false =>
      rw [nb] at n2
      rw [Bool.false_or, Bool.not_false, if_pos rfl]
      refine (exs_nx ((ex_ifF ((ev_orF n1).trans n2)).trans exs_nil)).trans ?_
      have l0 : look fr s1 fr.length = some (.lst fs) := by
        have := look_at fr s1 0
        rw [Nat.add_zero] at this
        rw [this, hs1]
        rfl
      have pt : put fr s1 fr.length (.lst (fs ++ [.tup [a, b]])) = some (s1.set 0 (.lst (fs ++ [.tup [a, b]]))) := by
        have := put_at fr s1 0 (.lst (fs ++ [.tup [a, b]])) (by rw [hs1]; simp)
        rw [Nat.add_zero] at this
        exact this
      have tp : ev G fr [] none (.tup [.var 5, .var 6]) [tx, some (.int many), some (.ref fr.length), some (.str (Tx p)), some (.ref (fr.length + (g.length + 2))), some a, some b] s1 = .ok (.tup [a, b]) s1 := ev_tup (evs_cons (ev_var rfl) (evs_cons (ev_var rfl) evs_nil)) (by unfold lineMax; simp)
      have vv : ev G fr [] none (.var 2) [tx, some (.int many), some (.ref fr.length), some (.str (Tx p)), some (.ref (fr.length + (g.length + 2))), some a, some b] s1 = .ok (.ref fr.length) s1 := ev_var rfl
      refine (exs_nx (ex_expr (x := .non) (s1 := s1.set 0 (.lst (fs ++ [D.tup [a, b]]))) ?_)).trans ?_
      · rw [ev, vv, bnd_ok]
        simp only [kindD, l0, okBm, BEq.rfl, if_true, evs, tp, bnd_ok, bm, listW, hf, pt]
      · rw [exs_nil, hs1]
        rfl
end Sv.Lw
end -- Pl5
section -- Pl6
set_option Elab.async false
set_option linter.all false
set_option maxRecDepth 100000
set_option maxHeartbeats 4000000
set_option exponentiation.threshold 3000
namespace Sv.Lw
open PySem (Str PyData)
def tupOf (many : Int) (p : List Nat) : D := .tup [(partD many p).1, (partD many p).2]
theorem p_loop (G : Orc) (h1 : HasNum G) (h2 : HasVal G) (fr : Sto) (many : Int) (tx : Option D) (all : List D) : ∀ (ps : List (List Nat)) (fs : List D) (x3 x4 x5 x6 : Option D) (g : Sto), (∀ p ∈ ps, p.length ≤ 30000) → fs.length + ps.length < lineMax →
    ∃ (y3 y4 y5 y6 : Option D) (g' : Sto), loopE (fun d ρ s => match asgN ρ (.nm 3) d with
      | some ρ1 => execs G fr [] none pBody ρ1 s
      | none => .bad) (fun s => stays fr s (.lists [(fr.length + 1, all)])) (ps.map fun p => .str (Tx p)) [tx, some (.int many), some (.ref fr.length), x3, x4, x5, x6] (.lst fs :: .lst all :: g) =
      if ps.all (partOk many) then .ok [tx, some (.int many), some (.ref fr.length), y3, y4, y5, y6] .nx (.lst (fs ++ ps.map (tupOf many)) :: .lst all :: g')
      else .ex 7 [.int 0] [tx, some (.int many), some (.ref fr.length), y3, y4, y5, y6] g'
  | [], fs, x3, x4, x5, x6, g, _, _ => ⟨x3, x4, x5, x6, g, by simp [loopE]⟩
  | p :: ps, fs, x3, x4, x5, x6, g, hp, hl => by
    obtain ⟨g1, e⟩ := p_turn G h1 h2 fr p many tx x4 x5 x6 fs (.lst all) g (hp p (by simp)) (by simp at hl; omega)
    have ea : asgN [tx, some (.int many), some (.ref fr.length), x3, x4, x5, x6] (.nm 3) (.str (Tx p)) = some [tx, some (.int many), some (.ref fr.length), some (.str (Tx p)), x4, x5, x6] := by
      unfold asgN
      rfl
    by_cases c : partOk many p = true
    · rw [if_pos c] at e
      obtain ⟨y3, y4, y5, y6, g', ih⟩ := p_loop G h1 h2 fr many tx all ps (fs ++ [tupOf many p]) (some (.str (Tx p))) (some (.ref (fr.length + (g.length + 2)))) (some (partD many p).1) (some (partD many p).2) g1 (fun q hq => hp q (by simp [hq])) (by simp at hl ⊢; omega)
      refine ⟨y3, y4, y5, y6, g', ?_⟩
      have st : stays fr (.lst (fs ++ [.tup [(partD many p).1, (partD many p).2]]) :: .lst all :: g1) (.lists [(fr.length + 1, all)]) = true := by
        simp only [stays, List.all_cons, List.all_nil, Bool.and_true, decide_eq_true_eq]
        rw [look_at]
        rfl
      rw [List.map_cons, loopE]
      simp only [ea]
      rw [e]
      simp only [st, if_true]
      have : fs ++ [.tup [(partD many p).1, (partD many p).2]] = fs ++ [tupOf many p] := rfl
      rw [this, ih]
      simp only [List.all_cons, c, Bool.true_and, List.map_cons, List.append_assoc, List.singleton_append]
    · rw [if_neg c] at e
      have c' : partOk many p = false := by simpa using c
      refine ⟨some (.str (Tx p)), some (.ref (fr.length + (g.length + 2))), some (partD many p).1, some (partD many p).2, .lst fs :: .lst all :: g1, ?_⟩
      rw [List.map_cons, loopE]
      simp only [ea]
      rw [e]
      simp only [List.all_cons, c', Bool.false_and, Bool.false_eq_true, if_false]
/-- parse_stream's answer -/
def parseR (cs : List Nat) (many : Int) (lv : Sto) : R D := if cs = [45] then .ok (.tup []) lv else if (splitL 32 cs).all (partOk many) then .ok (.tup ((splitL 32 cs).map (tupOf many))) lv else .ex 7 [.int 0] lv
theorem part_old (n : Nat) (many : Int) (p : List Nat) : D.old n (tupOf many p) = true := by
  unfold tupOf partD
  simp only [D.old, D.olds, numIn_old, Bool.true_and, Bool.and_true]
  split
  · exact valIn_old _ _
  · rfl
theorem olds_map (n : Nat) (many : Int) : ∀ ps : List (List Nat), D.olds n (ps.map (tupOf many)) = true
  | [] => rfl
  | p :: ps => by simp only [List.map_cons, D.olds, part_old, olds_map n many ps, Bool.and_self]
theorem parse (G : Orc) (h1 : HasNum G) (h2 : HasVal G) (fr lv : Sto) (cs : List Nat) (many : Int) (hl : cs.length ≤ 30000) : runFn G f_182 [.str (Tx cs), .int many] [] fr lv = parseR cs many lv := by
  have e0 : runFn G f_182 [.str (Tx cs), .int many] [] fr lv = endQ (fr.length + lv.length) lv (execs G (fr ++ lv) [] none f_182.body [some (.str (Tx cs)), some (.int many), none, none, none, none, none] []) := rfl
  rw [e0]
  obtain ⟨fs, hfs⟩ : ∃ fs, fs = fr ++ lv := ⟨_, rfl⟩
  rw [← hfs]
  have c0 : ev G fs [] none (.cmp .eq (.var 0) (.con (.str (Tx [45])))) [some (.str (Tx cs)), some (.int many), none, none, none, none, none] [] = .ok (.bl (decide (cs = [45]))) [] := ev_cmp (ev_var rfl) ev_con (eq_str _ _ _ _)
  unfold parseR
  by_cases h : cs = [45]
  · rw [if_pos h]
    rw [decide_eq_true h] at c0
    have : execs G fs [] none f_182.body [some (.str (Tx cs)), some (.int many), none, none, none, none, none] [] = .ok [some (.str (Tx cs)), some (.int many), none, none, none, none, none] (.rt (.tup [])) [] :=
      exs_rt ((ex_ifT c0).trans (exs_rt (ex_ret (ev_tup evs_nil (by unfold lineMax; simp)))))
    rw [this, endQ_rt _ _ _ _ _ rfl]
  · rw [if_neg h]
    rw [decide_eq_false h] at c0
    obtain ⟨ps, hps⟩ : ∃ ps, ps = splitL 32 cs := ⟨_, rfl⟩
    have hn : ps.length ≤ 30001 := by rw [hps]; exact Nat.le_trans (splitL_len _ _) (by omega)
    have hpt : ∀ p ∈ ps, p.length ≤ 30000 := fun p hp => Nat.le_trans (splitL_part 32 cs p (by rw [← hps]; exact hp)) hl
    obtain ⟨y3, y4, y5, y6, g', lp⟩ := p_loop G h1 h2 fs many (some (.str (Tx cs))) (ps.map fun p => .str (Tx p)) ps [] none none none none [] hpt (by simp; unfold lineMax; omega)
    have a1 : exec G fs [] none (.asg (.nm 2) (.lst [])) [some (.str (Tx cs)), some (.int many), none, none, none, none, none] [] = .ok [some (.str (Tx cs)), some (.int many), some (.ref fs.length), none, none, none, none] .nx [.lst []] :=
      ex_asg (ev_lst evs_nil (by unfold lineMax; simp)) (by simp)
    have sp : ev G fs [] none (.bm .split (.var 0) [.con (.str (Tx [32]))]) [some (.str (Tx cs)), some (.int many), some (.ref fs.length), none, none, none, none] [.lst []] = .ok (.ref (fs.length + 1)) [.lst [], .lst (ps.map fun p => .str (Tx p))] := by
      rw [hps]
      exact ev_split (ev_var rfl) (by decide) hl (by rw [← hps]; unfold lineMax; omega)
    have lk : look fs [.lst [], .lst (ps.map fun p => .str (Tx p))] (fs.length + 1) = some (.lst (ps.map fun p => .str (Tx p))) := by rw [look_at]; rfl
    have it : evI G fs [] none (.val (.bm .split (.var 0) [.con (.str (Tx [32]))])) [some (.str (Tx cs)), some (.int many), some (.ref fs.length), none, none, none, none] [.lst []] = .ok (ps.map fun p => .str (Tx p), .lists [(fs.length + 1, ps.map fun p => .str (Tx p))]) [.lst [], .lst (ps.map fun p => .str (Tx p))] := by
      simp only [evI, sp, bnd_ok, valI, itemsOf, listAt, lk, listWt]
    have st : stays fs [.lst [], .lst (ps.map fun p => .str (Tx p))] (.lists [(fs.length + 1, ps.map fun p => .str (Tx p))]) = true := by
      simp only [stays, List.all_cons, List.all_nil, Bool.and_true, decide_eq_true_eq]
      exact lk
    have lo : exec G fs [] none (.loop (.nm 3) (.val (.bm .split (.var 0) [.con (.str (Tx [32]))])) pBody) [some (.str (Tx cs)), some (.int many), some (.ref fs.length), none, none, none, none] [.lst []] =
        if ps.all (partOk many) then .ok [some (.str (Tx cs)), some (.int many), some (.ref fs.length), y3, y4, y5, y6] .nx (.lst (ps.map (tupOf many)) :: .lst (ps.map fun p => .str (Tx p)) :: g')
        else .ex 7 [.int 0] [some (.str (Tx cs)), some (.int many), some (.ref fs.length), y3, y4, y5, y6] g' := by
      simp only [exec, it, rs_ok, st, Bool.not_true, Bool.false_eq_true, if_false, lockS]
      refine (congrArg (RS.mapS _ _) lp).trans ?_
      split <;> simp only [RS.mapS, Wt.isDict, unlockS, List.nil_append, Bool.false_eq_true, if_false]
    rw [← hps]
    by_cases ok : ps.all (partOk many) = true
    · rw [if_pos ok] at lo ⊢
      have : execs G fs [] none f_182.body [some (.str (Tx cs)), some (.int many), none, none, none, none, none] [] = .ok [some (.str (Tx cs)), some (.int many), some (.ref fs.length), y3, y4, y5, y6] (.rt (.tup (ps.map (tupOf many)))) (.lst (ps.map (tupOf many)) :: .lst (ps.map fun p => .str (Tx p)) :: g') := by
        refine (exs_nx ((ex_ifF c0).trans exs_nil)).trans ((exs_nx a1).trans ((exs_nx lo).trans (exs_rt (ex_ret ?_))))
        rw [ev_bi1 (by decide) (ev_var (x := .ref fs.length) rfl)]
        have l0 : look fs (.lst (ps.map (tupOf many)) :: .lst (ps.map fun p => .str (Tx p)) :: g') fs.length = some (.lst (ps.map (tupOf many))) := by
          have := look_at fs (.lst (ps.map (tupOf many)) :: .lst (ps.map fun p => .str (Tx p)) :: g') 0
          rw [Nat.add_zero] at this
          rw [this]
          rfl
        simp only [bi, itemsOf, listAt, l0, newT]
        rw [if_pos (by rw [List.length_map]; unfold lineMax; omega)]
      rw [this, endQ_rt _ _ _ _ _ (by simp only [D.old, olds_map])]
    · rw [if_neg ok] at lo ⊢
      have : execs G fs [] none f_182.body [some (.str (Tx cs)), some (.int many), none, none, none, none, none] [] = .ex 7 [.int 0] [some (.str (Tx cs)), some (.int many), some (.ref fs.length), y3, y4, y5, y6] g' :=
        (exs_nx ((ex_ifF c0).trans exs_nil)).trans ((exs_nx a1).trans (exs_ex lo))
      rw [this]
      rfl
end Sv.Lw
end -- Pl6
section -- Pl7
set_option Elab.async false
set_option linter.all false
set_option maxRecDepth 100000
set_option maxHeartbeats 4000000
set_option exponentiation.threshold 3000
namespace Sv.Lw
open PySem (Str PyData)
def strL (i : Int) : List Nat := (if i < 0 then [45] else []) ++ digs i.natAbs
theorem strI_Tx (i : Int) : strI i = Tx (strL i) := rfl
theorem strL_len {i : Int} (h : i.natAbs < 10 ^ 500) : (strL i).length ≤ 501 := by
  have : (digs i.natAbs).length ≤ 500 := by
    unfold digs
    rw [List.length_map]
    exact PyProof.Rows.digits10_le (by decide) h
  unfold strL
  split <;> simp <;> omega
def pairL (p : Int × Int) : List Nat := strL p.1 ++ [58] ++ strL p.2
def pairD (p : Int × Int) : D := .tup [.int p.1, .int p.2]
def Small (p : Int × Int) : Prop := p.1.natAbs < 10 ^ 500 ∧ p.2.natAbs < 10 ^ 500
theorem pairL_len {p : Int × Int} (h : Small p) : (pairL p).length ≤ 1003 := by
  have a := strL_len h.1
  have b := strL_len h.2
  unfold pairL
  simp only [List.length_append, List.length_cons, List.length_nil]
  omega
def joinL : List (List Nat) → List Nat
  | [] => []
  | [x] => x
  | x :: r => x ++ [32] ++ joinL r
theorem joinS_Tx : ∀ ws : List (List Nat), joinS (Tx [32]) (ws.map Tx) = Tx (joinL ws)
  | [] => rfl
  | [x] => rfl
  | x :: y :: r => by
    have ih := joinS_Tx (y :: r)
    simp only [List.map_cons] at ih ⊢
    simp only [joinS, joinL, ih]
    show Str.mk (x.toArray ++ [32].toArray ++ (joinL (y :: r)).toArray) = Str.mk _
    simp
def textL (ws : List (Int × Int)) : List Nat := if ws = [] then [45] else joinL (ws.map pairL)
theorem add_str (fr lv : Sto) (a b : List Nat) (h : a.length + b.length ≤ lineMax) : bop fr lv .add (.str (Tx a)) (.str (Tx b)) = .ok (.str (Tx (a ++ b))) lv := by
  show (if (Tx a).length + (Tx b).length ≤ lineMax then _ else _) = _
  rw [Tx_len, Tx_len, if_pos h]
  show R.ok (D.str (Str.mk (a.toArray ++ b.toArray))) lv = _
  simp
theorem str_int (rp : PyData → Str) (fr lv : Sto) {i : Int} (h : i.natAbs < 10 ^ 500) : bi rp fr lv .str [.int i] = .ok (.str (Tx (strL i))) lv := by
  simp only [bi, strD, h, if_true, Option.map_some, of_ok, strI_Tx]
theorem strs_map : ∀ ws : List (List Nat), strsOf (ws.map fun w => D.str (Tx w)) = some (ws.map Tx)
  | [] => rfl
  | w :: ws => by simp only [List.map_cons, strsOf, strs_map ws, Option.map_some]
/-- tuples of pairs of numbers, as data -/
theorem pd_pair (fr lv : Sto) (n : Nat) (p : Int × Int) : pd fr lv (n + 1) (pairD p) = some (.tuple [.int p.1, .int p.2]) := by
  cases n <;> rfl
theorem pd_pairs (fr lv : Sto) (n : Nat) : ∀ ws : List (Int × Int), (ws.map pairD).mapM (pd fr lv (n + 1)) = some (ws.map fun p => PyData.tuple [.int p.1, .int p.2])
  | [] => rfl
  | p :: ws => by
    rw [List.map_cons, List.mapM_cons, pd_pair, pd_pairs fr lv n ws]
    rfl
theorem pd_stream (fr lv : Sto) (ws : List (Int × Int)) : pd fr lv pdDepth (.tup (ws.map pairD)) = some (.tuple (ws.map fun p => PyData.tuple [.int p.1, .int p.2])) := by
  show (List.mapM (pd fr lv 23) (ws.map pairD)).map PyData.tuple = _
  rw [pd_pairs]
  rfl
end Sv.Lw
end -- Pl7
section -- Pl8
set_option Elab.async false
set_option linter.all false
set_option maxRecDepth 100000
set_option maxHeartbeats 4000000
set_option exponentiation.threshold 3000
namespace Sv.Lw
open PySem (Str PyData)
theorem ne_nil (fr lv : Sto) (ws : List (Int × Int)) : cop fr lv .ne (.tup (ws.map pairD)) (.tup []) = some (!decide (ws = [])) := by
  have e : eqD fr lv (.tup (ws.map pairD)) (.tup []) = some (decide (ws = [])) := by
    simp only [eqD, emptyL, pd_stream]
    have : pd fr lv pdDepth (.tup []) = some (.tuple []) := rfl
    rw [this]
    cases ws <;> simp [PyData.eqv, PyData.eqvAll]
  simp only [cop, e, Option.map_some]
/-- [.. for a, b in stream] -/
theorem lc_pairs {G : Orc} {fr : Sto} {e : C} {s : Sto} {ws : List (Int × Int)} (h : ∀ p ∈ ws, ev G fr [] none e [some (.tup (ws.map pairD)), some (.int p.1), some (.int p.2)] s = .ok (.str (Tx (pairL p))) s) (hl : ws.length ≤ lineMax) :
    ev G fr [] none (.lc e [1, 2] (.tp [.nm 1, .nm 2]) (.val (.var 0)) none) [some (.tup (ws.map pairD)), none, none] s = .ok (.ref (fr.length + s.length)) (s ++ [.lst (ws.map fun p => .str (Tx (pairL p)))]) := by
  simp only [ev, evI, varD, List.getElem?_cons_zero, of_ok, bnd_ok, valI, itemsOf, listWt, stays, Bool.not_true, if_false, Bool.false_eq_true]
  rw [lcL_pure (f := fun d => match d with
    | .tup [.int a, .int b] => some (.str (Tx (pairL (a, b))))
    | _ => none) rfl]
  · simp only [R.noex, bnd_ok, unlockS, newL]
    have : (List.map pairD ws).filterMap (fun d => match d with
      | .tup [.int a, .int b] => some (.str (Tx (pairL (a, b))))
      | _ => none) = ws.map fun p => D.str (Tx (pairL p)) := by
      clear h hl
      induction ws with
      | nil => rfl
      | cons p ws ih =>
        rw [List.map_cons, List.filterMap_cons]
        simp only [pairD] at ih ⊢
        rw [ih]
        rfl
    rw [this, if_pos (by rw [List.length_map]; exact hl)]
    rfl
  · intro d hd
    simp only [List.mem_map] at hd
    obtain ⟨p, hp, rfl⟩ := hd
    have : asgN (wipe [1, 2] [some (.tup (ws.map pairD)), none, none]) (.tp [.nm 1, .nm 2]) (pairD p) = some [some (.tup (ws.map pairD)), some (.int p.1), some (.int p.2)] := by
      unfold pairD
      simp [wipe, asgN, asgNs]
    rw [this]
    have hl2 : lockS fr s Wt.none = s := rfl
    simp only [bnd_ok, if_true, hl2, h p hp]
    rfl
theorem sum_le (ws : List (Int × Int)) (h : ∀ p ∈ ws, Small p) : ((ws.map pairL).map (·.length)).sum ≤ ws.length * 1003 := by
  induction ws with
  | nil => simp
  | cons p ws ih =>
    have := ih fun q hq => h q (List.mem_cons_of_mem _ hq)
    have := pairL_len (h p (List.mem_cons_self ..))
    simp only [List.map_cons, List.sum_cons, List.length_cons]
    omega
theorem join_pairs {G : Orc} {fr : Sto} {a : C} {ρ : Env} {lv s : Sto} {l : Nat} {ws : List (Int × Int)} (h : ev G fr [] none a ρ lv = .ok (.ref l) s) (hk : look fr s l = some (.lst (ws.map fun p => .str (Tx (pairL p))))) (hs : ∀ p ∈ ws, Small p) (hn : ws.length ≤ 900) :
    ev G fr [] none (.bm .join (.con (.str (Tx [32]))) [a]) ρ lv = .ok (.str (Tx (joinL (ws.map pairL)))) s := by
  have e1 : strsOf (ws.map fun p => D.str (Tx (pairL p))) = some ((ws.map pairL).map Tx) := by
    rw [← strs_map, List.map_map]
    rfl
  simp only [ev, evs, h, bnd_ok, kindD, okBm, BEq.rfl, if_true, bm, itemsOf, listAt, hk, e1]
  rw [if_pos]
  · rw [joinS_Tx]
  · have := sum_le ws hs
    rw [List.map_map]
    have e : ((fun x : Str => x.length) ∘ Tx) = fun w : List Nat => w.length := funext fun w => Tx_len w
    rw [e]
    have : (Tx [32]).length = 1 := rfl
    rw [this, List.length_map, List.length_map]
    unfold lineMax
    omega
theorem text_of (G : Orc) (d : Fn) (e : C) (hd : d = { slots := 3, ps := 1, fs := 0, quiet := true, body := [.ret (.ifx (.cmp .ne (.var 0) (.con (.tup []))) (.bm .join (.con (.str (Tx [32]))) [.lc e [1, 2] (.tp [.nm 1, .nm 2]) (.val (.var 0)) none]) (.con (.str (Tx [45]))))] } ∨
    d = { slots := 3, ps := 1, fs := 0, quiet := true, body := [.ret (.ifx (.cmp .ne (.var 0) (.tup [])) (.bm .join (.con (.str (Tx [32]))) [.lc e [1, 2] (.tp [.nm 1, .nm 2]) (.val (.var 0)) none]) (.con (.str (Tx [45]))))] })
    (he : ∀ (fr s : Sto) (x : Option D) (p : Int × Int), Small p → ev G fr [] none e [x, some (.int p.1), some (.int p.2)] s = .ok (.str (Tx (pairL p))) s) (fr lv : Sto) (ws : List (Int × Int)) (hs : ∀ p ∈ ws, Small p) (hn : ws.length ≤ 900) :
    runFn G d [.tup (ws.map pairD)] [] fr lv = .ok (.str (Tx (textL ws))) lv := by
  obtain ⟨t, ht1, ht2⟩ : ∃ t : C, d = { slots := 3, ps := 1, fs := 0, quiet := true, body := [.ret (.ifx (.cmp .ne (.var 0) t) (.bm .join (.con (.str (Tx [32]))) [.lc e [1, 2] (.tp [.nm 1, .nm 2]) (.val (.var 0)) none]) (.con (.str (Tx [45]))))] } ∧ ∀ fr ρ s, ev G fr [] none t ρ s = .ok (.tup []) s := by
    rcases hd with h | h
    · exact ⟨_, h, fun fr ρ s => ev_con⟩
    · exact ⟨_, h, fun fr ρ s => ev_tup evs_nil (by unfold lineMax; simp)⟩
  subst ht1
  suffices h : ∃ s, ev G (fr ++ lv) [] none (.ifx (.cmp .ne (.var 0) t) (.bm .join (.con (.str (Tx [32]))) [.lc e [1, 2] (.tp [.nm 1, .nm 2]) (.val (.var 0)) none]) (.con (.str (Tx [45])))) [some (.tup (ws.map pairD)), none, none] [] = .ok (.str (Tx (textL ws))) s by
    obtain ⟨s, h⟩ := h
    have e0 : runFn G { slots := 3, ps := 1, fs := 0, quiet := true, body := [.ret (.ifx (.cmp .ne (.var 0) t) (.bm .join (.con (.str (Tx [32]))) [.lc e [1, 2] (.tp [.nm 1, .nm 2]) (.val (.var 0)) none]) (.con (.str (Tx [45]))))] } [.tup (ws.map pairD)] [] fr lv = endQ (fr.length + lv.length) lv (execs G (fr ++ lv) [] none [.ret (.ifx (.cmp .ne (.var 0) t) (.bm .join (.con (.str (Tx [32]))) [.lc e [1, 2] (.tp [.nm 1, .nm 2]) (.val (.var 0)) none]) (.con (.str (Tx [45]))))] [some (.tup (ws.map pairD)), none, none] []) := rfl
    rw [e0, exs_rt (ex_ret h), endQ_rt _ _ _ _ _ rfl]
  have c := ev_cmp (G := G) (fr := fr ++ lv) (φ := []) (η := none) (lv := []) (ev_var (ρ := [some (.tup (ws.map pairD)), none, none]) (i := 0) rfl) (ht2 _ _ _) (ne_nil _ _ ws)
  unfold textL
  by_cases h : ws = []
  · rw [if_pos h]
    rw [decide_eq_true h] at c
    exact ⟨[], (ev_ifF c).trans ev_con⟩
  · rw [if_neg h]
    rw [decide_eq_false h] at c
    refine ⟨_, (ev_ifT c).trans (join_pairs (lc_pairs (fun p hp => he _ _ _ p (hs p hp)) (by unfold lineMax; omega)) (look_new _ _ _) hs hn)⟩
theorem law_text (G : Orc) (fr lv : Sto) (ws : List (Int × Int)) (hs : ∀ p ∈ ws, Small p) (hn : ws.length ≤ 900) : runFn G f_183 [.tup (ws.map pairD)] [] fr lv = .ok (.str (Tx (textL ws))) lv := by
  refine text_of G f_183 (.bin .add (.bin .add (.bi .str [.var 1]) (.con (.str (Tx [58])))) (.bi .str [.var 2])) (.inr rfl) (fun fr s x p hp => ?_) fr lv ws hs hn
  have a := strL_len hp.1
  have b := strL_len hp.2
  refine (ev_bin ((ev_bin ((ev_bi1 (by decide) (ev_var rfl)).trans (str_int _ _ _ hp.1)) ev_con).trans (add_str _ _ _ _ (by simp; unfold lineMax; omega))) ((ev_bi1 (by decide) (ev_var rfl)).trans (str_int _ _ _ hp.2))).trans (add_str _ _ _ _ (by simp; unfold lineMax; omega))
theorem fmt_int {G : Orc} {fr : Sto} {a : C} {ρ : Env} {lv s : Sto} {i : Int} (h : ev G fr [] none a ρ lv = .ok (.int i) s) (hi : i.natAbs < 10 ^ 500) : ev G fr [] none (.fmt a) ρ lv = .ok (.str (Tx (strL i))) s := by
  simp only [ev, h, bnd_ok, strD, hi, if_true, strI_Tx]
  rw [if_pos]
  rw [Tx_len]
  have := strL_len hi
  unfold partMax
  omega
theorem format_stream (G : Orc) (fr lv : Sto) (ws : List (Int × Int)) (hs : ∀ p ∈ ws, Small p) (hn : ws.length ≤ 900) : runFn G f_180 [.tup (ws.map pairD)] [] fr lv = .ok (.str (Tx (textL ws))) lv := by
  refine text_of G f_180 (.fst [.fmt (.var 1), .con (.str (Tx [58])), .fmt (.var 2)]) (.inr rfl) (fun fr s x p hp => ?_) fr lv ws hs hn
  have e : evs G fr [] none [.fmt (.var 1), .con (.str (Tx [58])), .fmt (.var 2)] [x, some (.int p.1), some (.int p.2)] s = .ok [.str (Tx (strL p.1)), .str (Tx [58]), .str (Tx (strL p.2))] s :=
    evs_cons (fmt_int (ev_var rfl) hp.1) (evs_cons ev_con (evs_cons (fmt_int (ev_var rfl) hp.2) evs_nil))
  rw [ev, if_pos (by decide), e, bnd_ok]
  simp only [strsOf, Option.map_some]
  show R.ok (D.str (Str.mk ((strL p.1).toArray ++ ([58].toArray ++ ((strL p.2).toArray ++ #[]))))) s = _
  unfold pairL
  simp
end Sv.Lw
end -- Pl8
section -- Pl9
set_option Elab.async false
set_option linter.all false
set_option maxRecDepth 100000
set_option maxHeartbeats 4000000
set_option exponentiation.threshold 3000
namespace Sv.Lw
open PySem (Str PyData)
theorem lc_non (G : Orc) (fr : Sto) (cs : List Nat) (m : Option D) (s : Sto) (hl : cs.length ≤ lineMax) :
    ev G fr [] none (.lc (.var 2) [2] (.nm 2) (.val (.var 0)) (some (.cmp .notin (.var 2) (.con (.str DIG))))) [some (.str (Tx cs)), m, none] s = .ok (.ref (fr.length + s.length)) (s ++ [.lst ((cs.filter fun c => !isDig c).map fun c => .str ⟨#[c]⟩)]) := by
  simp only [ev, evI, varD, List.getElem?_cons_zero, of_ok, bnd_ok, stays, Bool.not_true, if_false, Bool.false_eq_true]
  rw [lcL_pure (f := fun d => match d with
    | .str z => if (z.cps[0]?.map isDig).getD false then none else some (.str z)
    | _ => none) rfl]
  · simp only [R.noex, bnd_ok, unlockS, newL]
    have : (List.map (fun c => D.str ⟨#[c]⟩) (Tx cs).cps.toList).filterMap (fun d => match d with
      | .str z => if (z.cps[0]?.map isDig).getD false then none else some (D.str z)
      | _ => none) = (cs.filter fun c => !isDig c).map fun c => .str ⟨#[c]⟩ := by
      have e : (Tx cs).cps.toList = cs := by simp
      rw [e]
      clear hl
      induction cs with
      | nil => rfl
      | cons c cs ih =>
        rw [List.map_cons, List.filterMap_cons, List.filter_cons]
        have ih := ih (by simp)
        rw [ih]
        cases h : isDig c <;> simp [h]
    rw [this, if_pos]
    · rfl
    · rw [List.length_map]
      exact Nat.le_trans (List.length_filter_le _ _) hl
  · intro d hd
    simp only [List.mem_map] at hd
    obtain ⟨c, _, rfl⟩ := hd
    have hl2 : lockS fr s Wt.none = s := rfl
    have ea : asgN (wipe [2] [some (.str (Tx cs)), m, none]) (.nm 2) (.str ⟨#[c]⟩) = some [some (.str (Tx cs)), m, some (.str ⟨#[c]⟩)] := by simp [wipe, asgN]
    rw [ea, hl2]
    simp only [bnd_ok, cop, in_dig, Option.map_some, of_ok, asBool, List.getElem?_cons_succ, List.getElem?_cons_zero]
    cases h : isDig c <;> simp [h, bnd_ok]
theorem ne_lists (fr lv : Sto) (l k : Nat) (xs : List D) (h1 : look fr lv l = some (.lst xs)) (h2 : look fr lv k = some (.lst [])) : cop fr lv .ne (.ref l) (.ref k) = some (!xs.isEmpty) := by
  have e : eqD fr lv (.ref l) (.ref k) = some xs.isEmpty := by
    simp only [eqD, emptyL, h1, h2]
    cases xs <;> simp
  simp only [cop, e, Option.map_some]
theorem look_two (fr lv : Sto) (a b : O) : look fr (lv ++ [a] ++ [b]) (fr.length + lv.length) = some a := by
  rw [look_at, List.append_assoc, List.getElem?_append_right (by omega)]
  simp
theorem isn_g1 (G : Orc) (fr : Sto) (cs : List Nat) (m : Nat) (hl : cs.length ≤ lineMax) : ∃ s, ev G fr [] none (.or (.cmp .eq (.var 0) (.con (.str (Tx [])))) (.or (.cmp .gt (.bi .len [.var 0]) (.var 1)) (.cmp .ne (.lc (.var 2) [2] (.nm 2) (.val (.var 0)) (some (.cmp .notin (.var 2) (.con (.str DIG))))) (.lst []))))
    [some (.str (Tx cs)), some (.int (m : Int)), none] [] = .ok (.bl (!(!cs.isEmpty && decide (cs.length ≤ m) && cs.all isDig))) s := by
  by_cases h0 : cs = []
  · subst h0
    exact ⟨[], by rw [ev_orT (ev_cmp (ev_var rfl) ev_con (by rw [eq_str]; rfl))]; rfl⟩
  have e0 : cs.isEmpty = false := by cases cs <;> first | exact absurd rfl h0 | rfl
  have c0 : ev G fr [] none (.cmp .eq (.var 0) (.con (.str (Tx [])))) [some (.str (Tx cs)), some (.int (m : Int)), none] [] = .ok (.bl false) [] := ev_cmp (ev_var rfl) ev_con (by rw [eq_str, decide_eq_false h0])
  have cl : ∀ b, decide ((m : Int) < (cs.length : Int)) = b → ev G fr [] none (.cmp .gt (.bi .len [.var 0]) (.var 1)) [some (.str (Tx cs)), some (.int (m : Int)), none] [] = .ok (.bl b) [] := fun b hb =>
    ev_cmp (x := .int cs.length) (by rw [ev_len (ev_var rfl), len_str _ _ _ _ (by rw [Tx_len]; exact hl), Tx_len]) (ev_var (x := .int (m : Int)) rfl) (by rw [gt_int, hb])
  by_cases h1 : cs.length ≤ m
  case neg =>
    refine ⟨[], ?_⟩
    rw [ev_orF c0, ev_orT (cl true (decide_eq_true (by omega)))]
    rw [e0, decide_eq_false h1]
    rfl
  refine ⟨[] ++ [.lst ((cs.filter fun c => !isDig c).map fun c => .str ⟨#[c]⟩)] ++ [.lst []], ?_⟩
  refine (ev_orF c0).trans ((ev_orF (cl false (decide_eq_false (by omega)))).trans ?_)
  refine (ev_cmp (lc_non G fr cs _ [] hl) (ev_lst evs_nil (by unfold lineMax; simp)) (ne_lists _ _ _ _ _ (look_two fr [] _ _) (look_new _ _ _))).trans ?_
  congr 2
  rw [e0, decide_eq_true h1]
  have : ((cs.filter fun c => !isDig c).map fun c => D.str ⟨#[c]⟩).isEmpty = cs.all isDig := by
    clear hl c0 cl h1 e0 h0
    induction cs with
    | nil => rfl
    | cons c cs ih =>
      rw [List.filter_cons, List.all_cons]
      cases h : isDig c
      · simp [h]
      · simp only [Bool.not_true, Bool.false_eq_true, if_false, Bool.true_and]
        exact ih
  rw [this]
  rfl
theorem is_number (G : Orc) (fr lv : Sto) (cs : List Nat) (m : Nat) (hl : cs.length ≤ lineMax) : runFn G f_184 [.str (Tx cs), .int (m : Int)] [] fr lv = .ok (.bl (isNum m cs)) lv := by
  suffices h : ∃ ρ s, execs G (fr ++ lv) [] none f_184.body [some (.str (Tx cs)), some (.int (m : Int)), none] [] = .ok ρ (.rt (.bl (isNum m cs))) s by
    obtain ⟨ρ, s, e⟩ := h
    have : runFn G f_184 [.str (Tx cs), .int (m : Int)] [] fr lv = endQ (fr.length + lv.length) lv (execs G (fr ++ lv) [] none f_184.body [some (.str (Tx cs)), some (.int (m : Int)), none] []) := rfl
    rw [this, e, endQ_rt _ _ _ _ _ rfl]
  obtain ⟨s1, g1⟩ := isn_g1 G (fr ++ lv) cs m hl
  refine ⟨[some (.str (Tx cs)), some (.int (m : Int)), none], s1, ?_⟩
  cases hg : (!cs.isEmpty && decide (cs.length ≤ m) && cs.all isDig) with
  | false =>
    rw [hg] at g1
    have : isNum m cs = false := by
      unfold isNum
      rw [hg]
      rfl
    rw [this]
    exact exs_rt ((ex_ifT g1).trans (exs_rt (ex_ret ev_con)))
  | true =>
    rw [hg] at g1
    have hn : isNum m cs = (decide (cs.head? ≠ some 48) || decide (cs = [48])) := by
      unfold isNum
      rw [hg]
      rfl
    rw [hn]
    refine (exs_nx ((ex_ifF g1).trans exs_nil)).trans (exs_rt (ex_ret ?_))
    have e1 : ev G (fr ++ lv) [] none (.cmp .eq (.var 0) (.con (.str (Tx [48])))) [some (.str (Tx cs)), some (.int (m : Int)), none] s1 = .ok (.bl (decide (cs = [48]))) s1 := ev_cmp (ev_var rfl) ev_con (eq_str _ _ _ _)
    by_cases h : cs = [48]
    · rw [decide_eq_true h] at e1 ⊢
      rw [Bool.or_true]
      exact ev_orT e1
    · rw [decide_eq_false h] at e1 ⊢
      rw [Bool.or_false]
      refine (ev_orF e1).trans ?_
      simp only [Bool.and_eq_true, decide_eq_true_eq, Bool.not_eq_true'] at hg
      match cs, hg.1.1, hl with
      | c :: r, _, hl =>
        refine (ev_cmp (ev_idx (ev_var rfl) ev_con (idx_0 _ _ _ _ hl)) (ev_con (x := .str (Tx [48]))) (ne_str _ _ _ _)).trans ?_
        congr 2
        simp
end Sv.Lw
end -- Pl9
section -- Pl10
set_option Elab.async false
set_option linter.all false
set_option maxRecDepth 100000
set_option maxHeartbeats 4000000
set_option exponentiation.threshold 3000
namespace Sv.Lw
open PySem (Str PyData)
def HasIsn (G : Orc) : Prop := ∀ (cs : List Nat) (m : Nat) (fr lv : Sto), cs.length ≤ lineMax → G.call 184 [.str (Tx cs), .int (m : Int)] [] fr lv = .ok (.bl (isNum m cs)) lv
def goodV (v : List Nat) : Bool := if v.take 1 = [45] then !decide (v.drop 1 = [48]) && isNum 60 (v.drop 1) else isNum 60 v
def good1 (many : Int) (p : List Nat) : Bool := decide ((splitL 58 p).length = 2) && (isNum 1 ((splitL 58 p).headD []) && decide ((valN ((splitL 58 p).headD []) : Int) < many)) && goodV ((splitL 58 p).getD 1 [])
def gBody : List S := [.asg (.nm 3) (.bm .split (.var 2) [.con (.str (Tx [58]))]),
  .ifs (.or (.cmp .ne (.bi .len [.var 3]) (.con (.int 2))) (.or (.not (.call 184 [.idx (.var 3) (.con (.int 0)), .con (.int 1)])) (.cmp .ge (.bi .int [.idx (.var 3) (.con (.int 0))]) (.var 1)))) [.ret (.con (.bl false))] [],
  .asg (.nm 4) (.idx (.var 3) (.con (.int 1))),
  .ifs (.cmp .eq (.slc (.var 4) none (some (.con (.int 1)))) (.con (.str (Tx [45])))) [.asg (.nm 4) (.slc (.var 4) (some (.con (.int 1))) none), .ifs (.cmp .eq (.var 4) (.con (.str (Tx [48])))) [.ret (.con (.bl false))] []] [],
  .ifs (.not (.call 184 [.var 4, .con (.int 60)])) [.ret (.con (.bl false))] []]
theorem ne_int (fr lv : Sto) (a b : Int) : cop fr lv .ne (.int a) (.int b) = some (!decide (a = b)) := by
  show (some (a == b)).map _ = _
  rfl
theorem ge_int (fr lv : Sto) (a b : Int) : cop fr lv .ge (.int a) (.int b) = some (decide (b ≤ a)) := rfl
theorem g_tail (G : Orc) (h1 : HasIsn G) (fr : Sto) (v : List Nat) (tx mn pt sd : Option D) (s : Sto) (hv : v.length ≤ lineMax) :
    ∃ y4, execs G fr [] none [.ifs (.cmp .eq (.slc (.var 4) none (some (.con (.int 1)))) (.con (.str (Tx [45])))) [.asg (.nm 4) (.slc (.var 4) (some (.con (.int 1))) none), .ifs (.cmp .eq (.var 4) (.con (.str (Tx [48])))) [.ret (.con (.bl false))] []] [],
      .ifs (.not (.call 184 [.var 4, .con (.int 60)])) [.ret (.con (.bl false))] []] [tx, mn, pt, sd, some (.str (Tx v))] s = .ok [tx, mn, pt, sd, y4] (if goodV v then .nx else .rt (.bl false)) s := by
  have c := ev_cmp (G := G) (fr := fr) (φ := []) (η := none) (lv := s) (slc_to1 (ev_var (ρ := [tx, mn, pt, sd, some (.str (Tx v))]) (i := 4) rfl) hv) (ev_con (x := .str (Tx [45]))) (eq_str fr s _ _)
  have last : ∀ u : List Nat, u.length ≤ lineMax → execs G fr [] none [.ifs (.not (.call 184 [.var 4, .con (.int 60)])) [.ret (.con (.bl false))] []] [tx, mn, pt, sd, some (.str (Tx u))] s = .ok [tx, mn, pt, sd, some (.str (Tx u))] (if isNum 60 u then .nx else .rt (.bl false)) s := fun u hu => by
    have n := ev_not (ev_call (G := G) (fr := fr) (φ := []) (η := none) (evs_cons (ev_var (ρ := [tx, mn, pt, sd, some (.str (Tx u))]) (lv := s) (i := 4) rfl) (evs_cons (ev_con (x := .int 60)) evs_nil)) |>.trans (h1 u 60 fr s hu))
    cases h : isNum 60 u with
    | true =>
      rw [h] at n
      exact (exs_nx ((ex_ifF n).trans exs_nil)).trans exs_nil
    | false =>
      rw [h] at n
      exact exs_rt ((ex_ifT n).trans (exs_rt (ex_ret ev_con)))
  unfold goodV
  by_cases h : v.take 1 = [45]
  · rw [if_pos h]
    rw [decide_eq_true h] at c
    have hd : (v.drop 1).length ≤ lineMax := by rw [List.length_drop]; omega
    have a1 : exec G fr [] none (.asg (.nm 4) (.slc (.var 4) (some (.con (.int 1))) none)) [tx, mn, pt, sd, some (.str (Tx v))] s = .ok [tx, mn, pt, sd, some (.str (Tx (v.drop 1)))] .nx s := ex_asg (slc_from1 (ev_var rfl) hv) (by simp)
    have c2 := ev_cmp (G := G) (fr := fr) (φ := []) (η := none) (lv := s) (ev_var (ρ := [tx, mn, pt, sd, some (.str (Tx (v.drop 1)))]) (i := 4) rfl) (ev_con (x := .str (Tx [48]))) (eq_str fr s _ _)
    by_cases h2 : v.drop 1 = [48]
    · rw [decide_eq_true h2] at c2 ⊢
      refine ⟨some (.str (Tx (v.drop 1))), ?_⟩
      exact exs_rt ((ex_ifT c).trans ((exs_nx a1).trans (exs_rt ((ex_ifT c2).trans (exs_rt (ex_ret ev_con))))))
    · rw [decide_eq_false h2] at c2 ⊢
      refine ⟨some (.str (Tx (v.drop 1))), ?_⟩
      exact (exs_nx ((ex_ifT c).trans ((exs_nx a1).trans ((exs_nx ((ex_ifF c2).trans exs_nil)).trans exs_nil)))).trans (last _ hd)
  · rw [if_neg h]
    rw [decide_eq_false h] at c
    exact ⟨_, (exs_nx ((ex_ifF c).trans exs_nil)).trans (last v hv)⟩
theorem g_turn (G : Orc) (h1 : HasIsn G) (fr : Sto) (p : List Nat) (many : Int) (tx x3 x4 : Option D) (s : Sto) (hp : p.length ≤ 30000) :
    ∃ y3 y4 o, execs G fr [] none gBody [tx, some (.int many), some (.str (Tx p)), x3, x4] s = .ok [tx, some (.int many), some (.str (Tx p)), y3, y4] (if good1 many p then .nx else .rt (.bl false)) (s ++ [o]) := by
  have lm : ∀ {n : Nat}, n ≤ 30001 → n ≤ lineMax := fun h => Nat.le_trans h (by unfold lineMax; omega)
  obtain ⟨sd, hsd⟩ : ∃ sd, sd = splitL 58 p := ⟨_, rfl⟩
  have hn : sd.length ≤ 30001 := by rw [hsd]; exact Nat.le_trans (splitL_len _ _) (by omega)
  have hpt : ∀ w ∈ sd, w.length ≤ lineMax := fun w hw => lm (Nat.le_trans (splitL_part 58 p w (by rw [← hsd]; exact hw)) (by omega))
  obtain ⟨s1, hs1⟩ : ∃ s1 : Sto, s1 = s ++ [.lst (sd.map fun w => .str (Tx w))] := ⟨_, rfl⟩
  have e1 : exec G fr [] none (.asg (.nm 3) (.bm .split (.var 2) [.con (.str (Tx [58]))])) [tx, some (.int many), some (.str (Tx p)), x3, x4] s = .ok [tx, some (.int many), some (.str (Tx p)), some (.ref (fr.length + s.length)), x4] .nx s1 := by
    rw [hs1, hsd]
    exact ex_asg (ev_split (ev_var rfl) (by decide) hp (by rw [← hsd]; exact lm hn)) (by simp)
  have lk : look fr s1 (fr.length + s.length) = some (.lst (sd.map fun w => .str (Tx w))) := by
    rw [hs1]
    exact look_new fr s _
  have hlen := ev_cmp (G := G) (fr := fr) (φ := []) (η := none) (lv := s1) (x := .int sd.length) (by rw [ev_len (ev_var (ρ := [tx, some (.int many), some (.str (Tx p)), some (.ref (fr.length + s.length)), x4]) (i := 3) rfl)]; simp only [lenR, insAt, lk, lenD, itemsOf, listAt, Option.map_some, of_ok, List.length_map]) (ev_con (x := .int 2)) (ne_int fr s1 _ _)
  unfold good1
  rw [← hsd]
  have bad : ∀ {t : C}, ev G fr [] none t [tx, some (.int many), some (.str (Tx p)), some (.ref (fr.length + s.length)), x4] s1 = .ok (.bl true) s1 → ∀ q, execs G fr [] none (.ifs t [.ret (.con (.bl false))] [] :: q) [tx, some (.int many), some (.str (Tx p)), some (.ref (fr.length + s.length)), x4] s1 = .ok [tx, some (.int many), some (.str (Tx p)), some (.ref (fr.length + s.length)), x4] (.rt (.bl false)) s1 := fun {t} h q => exs_rt ((ex_ifT h).trans (exs_rt (ex_ret ev_con)))
  by_cases h2 : sd.length = 2
  case neg =>
    rw [decide_eq_false (show ¬ ((sd.length : Int) = 2) by omega)] at hlen
    rw [decide_eq_false h2, Bool.false_and, Bool.false_and]
    exact ⟨some (.ref (fr.length + s.length)), x4, .lst (sd.map fun w => .str (Tx w)), (exs_nx e1).trans ((bad (ev_orT hlen) _).trans (by rw [hs1]; rfl))⟩
  rw [decide_eq_true (show ((sd.length : Int) = 2) by omega)] at hlen
  rw [decide_eq_true h2, Bool.true_and]
  match sd, h2, hpt, lk, hs1, hlen with
  | [w0, w1], _, hpt, lk, hs1, hlen =>
  have i0 := ev_idx (G := G) (fr := fr) (φ := []) (η := none) (lv := s1) (z := .str (Tx w0)) (ev_var (ρ := [tx, some (.int many), some (.str (Tx p)), some (.ref (fr.length + s.length)), x4]) (i := 3) rfl) (ev_con (x := .int 0)) (by rw [idx_list lk]; rfl)
  have i1 := ev_idx (G := G) (fr := fr) (φ := []) (η := none) (lv := s1) (z := .str (Tx w1)) (ev_var (ρ := [tx, some (.int many), some (.str (Tx p)), some (.ref (fr.length + s.length)), x4]) (i := 3) rfl) (ev_con (x := .int 1)) (by rw [idx_list lk]; rfl)
  have c1 := ev_not ((ev_call (G := G) (fr := fr) (φ := []) (η := none) (evs_cons i0 (evs_cons (ev_con (x := .int 1)) evs_nil))).trans (h1 w0 1 fr s1 (hpt w0 (by simp))))
  show ∃ y3 y4 o, _ = RS.ok [tx, some (.int many), some (.str (Tx p)), y3, y4] (if ((isNum 1 w0 && decide ((valN w0 : Int) < many)) && goodV w1) = true then Fl.nx else .rt (.bl false)) (s ++ [o])
  cases n0 : isNum 1 w0 with
  | false =>
    rw [n0] at c1
    rw [Bool.false_and, Bool.false_and]
    exact ⟨some (.ref (fr.length + s.length)), x4, .lst ([w0, w1].map fun w => .str (Tx w)), (exs_nx e1).trans ((bad ((ev_orF hlen).trans (ev_orT c1)) _).trans (by rw [hs1]; rfl))⟩
  | true =>
    rw [n0] at c1
    rw [Bool.true_and]
    have q := n0
    unfold isNum at q
    simp only [Bool.and_eq_true, decide_eq_true_eq, Bool.not_eq_true'] at q
    obtain ⟨⟨⟨q1, q2⟩, q3⟩, _⟩ := q
    have iv : intS (Tx w0) = some (valN w0 : Int) := intS_dig (by intro z; rw [z] at q1; cases q1) q3 (by omega)
    have ib : ev G fr [] none (.bi .int [.idx (.var 3) (.con (.int 0))]) [tx, some (.int many), some (.str (Tx p)), some (.ref (fr.length + s.length)), x4] s1 = .ok (.int (valN w0)) s1 := by
      rw [ev_bi1 (by decide) i0]
      simp only [bi, iv, Option.map_some, of_ok]
    have c2 := ev_cmp ib (ev_var (i := 1) (x := .int many) rfl) (ge_int fr s1 _ _)
    by_cases hm : (valN w0 : Int) < many
    · rw [decide_eq_false (show ¬ (many ≤ (valN w0 : Int)) by omega)] at c2
      rw [decide_eq_true hm, Bool.true_and]
      have a1 : exec G fr [] none (.asg (.nm 4) (.idx (.var 3) (.con (.int 1)))) [tx, some (.int many), some (.str (Tx p)), some (.ref (fr.length + s.length)), x4] s1 = .ok [tx, some (.int many), some (.str (Tx p)), some (.ref (fr.length + s.length)), some (.str (Tx w1))] .nx s1 := ex_asg i1 (by simp)
      obtain ⟨y4, tl⟩ := g_tail G h1 fr w1 tx (some (.int many)) (some (.str (Tx p))) (some (.ref (fr.length + s.length))) s1 (hpt w1 (by simp))
      refine ⟨some (.ref (fr.length + s.length)), y4, .lst ([w0, w1].map fun w => .str (Tx w)), (exs_nx e1).trans ((exs_nx ((ex_ifF ((ev_orF hlen).trans ((ev_orF c1).trans c2))).trans exs_nil)).trans ((exs_nx a1).trans (tl.trans ?_)))⟩
      rw [hs1]
    · rw [decide_eq_true (show many ≤ (valN w0 : Int) by omega)] at c2
      rw [decide_eq_false hm, Bool.false_and]
      exact ⟨some (.ref (fr.length + s.length)), x4, .lst ([w0, w1].map fun w => .str (Tx w)), (exs_nx e1).trans ((bad ((ev_orF hlen).trans ((ev_orF c1).trans c2)) _).trans (by rw [hs1]; rfl))⟩
theorem g_loop (G : Orc) (h1 : HasIsn G) (fr : Sto) (many : Int) (tx : Option D) (all : List D) : ∀ (ps : List (List Nat)) (x2 x3 x4 : Option D) (g : Sto), (∀ p ∈ ps, p.length ≤ 30000) →
    ∃ (y2 y3 y4 : Option D) (g' : Sto), loopE (fun d ρ s => match asgN ρ (.nm 2) d with
      | some ρ1 => execs G fr [] none gBody ρ1 s
      | none => .bad) (fun s => stays fr s (.lists [(fr.length + 0, all)])) (ps.map fun p => .str (Tx p)) [tx, some (.int many), x2, x3, x4] (.lst all :: g) =
      .ok [tx, some (.int many), y2, y3, y4] (if ps.all (good1 many) then .nx else .rt (.bl false)) (.lst all :: g')
  | [], x2, x3, x4, g, _ => ⟨x2, x3, x4, g, by simp [loopE]⟩
  | p :: ps, x2, x3, x4, g, hp => by
    obtain ⟨y3, y4, o, e⟩ := g_turn G h1 fr p many tx x3 x4 (.lst all :: g) (hp p (by simp))
    have ea : asgN [tx, some (.int many), x2, x3, x4] (.nm 2) (.str (Tx p)) = some [tx, some (.int many), some (.str (Tx p)), x3, x4] := by
      unfold asgN
      rfl
    have st : stays fr (.lst all :: (g ++ [o])) (.lists [(fr.length + 0, all)]) = true := by
      simp only [stays, List.all_cons, List.all_nil, Bool.and_true, decide_eq_true_eq]
      rw [look_at]
      rfl
    by_cases c : good1 many p = true
    · rw [if_pos c] at e
      obtain ⟨z2, z3, z4, g', ih⟩ := g_loop G h1 fr many tx all ps (some (.str (Tx p))) y3 y4 (g ++ [o]) fun q hq => hp q (by simp [hq])
      refine ⟨z2, z3, z4, g', ?_⟩
      rw [List.map_cons, loopE]
      simp only [ea]
      rw [e]
      simp only [List.cons_append, st, if_true]
      rw [ih]
      simp only [List.all_cons, c, Bool.true_and]
    · rw [if_neg c] at e
      have c' : good1 many p = false := by simpa using c
      refine ⟨some (.str (Tx p)), y3, y4, g ++ [o], ?_⟩
      rw [List.map_cons, loopE]
      simp only [ea]
      rw [e]
      simp only [List.cons_append, st, if_true, List.all_cons, c', Bool.false_and, Bool.false_eq_true, if_false]
def goodT (cs : List Nat) (many : Int) : Bool := decide (cs = [45]) || (splitL 32 cs).all (good1 many)
theorem good (G : Orc) (h1 : HasIsn G) (fr lv : Sto) (cs : List Nat) (many : Int) (hl : cs.length ≤ 30000) : runFn G f_185 [.str (Tx cs), .int many] [] fr lv = .ok (.bl (goodT cs many)) lv := by
  suffices h : ∃ ρ s, execs G (fr ++ lv) [] none f_185.body [some (.str (Tx cs)), some (.int many), none, none, none] [] = .ok ρ (.rt (.bl (goodT cs many))) s by
    obtain ⟨ρ, s, e⟩ := h
    have : runFn G f_185 [.str (Tx cs), .int many] [] fr lv = endQ (fr.length + lv.length) lv (execs G (fr ++ lv) [] none f_185.body [some (.str (Tx cs)), some (.int many), none, none, none] []) := rfl
    rw [this, e, endQ_rt _ _ _ _ _ rfl]
  obtain ⟨fs, hfs⟩ : ∃ fs, fs = fr ++ lv := ⟨_, rfl⟩
  rw [← hfs]
  have c0 : ev G fs [] none (.cmp .eq (.var 0) (.con (.str (Tx [45])))) [some (.str (Tx cs)), some (.int many), none, none, none] [] = .ok (.bl (decide (cs = [45]))) [] := ev_cmp (ev_var rfl) ev_con (eq_str _ _ _ _)
  unfold goodT
  by_cases h : cs = [45]
  · rw [decide_eq_true h] at c0 ⊢
    exact ⟨_, _, exs_rt ((ex_ifT c0).trans (exs_rt (ex_ret ev_con)))⟩
  · rw [decide_eq_false h] at c0 ⊢
    rw [Bool.false_or]
    obtain ⟨ps, hps⟩ : ∃ ps, ps = splitL 32 cs := ⟨_, rfl⟩
    rw [← hps]
    have hn : ps.length ≤ 30001 := by rw [hps]; exact Nat.le_trans (splitL_len _ _) (by omega)
    have hpt : ∀ p ∈ ps, p.length ≤ 30000 := fun p hp => Nat.le_trans (splitL_part 32 cs p (by rw [← hps]; exact hp)) hl
    obtain ⟨y2, y3, y4, g', lp⟩ := g_loop G h1 fs many (some (.str (Tx cs))) (ps.map fun p => .str (Tx p)) ps none none none [] hpt
    have sp : ev G fs [] none (.bm .split (.var 0) [.con (.str (Tx [32]))]) [some (.str (Tx cs)), some (.int many), none, none, none] [] = .ok (.ref (fs.length + 0)) [.lst (ps.map fun p => .str (Tx p))] := by
      rw [hps]
      exact ev_split (ev_var rfl) (by decide) hl (by rw [← hps]; unfold lineMax; omega)
    have lk : look fs [.lst (ps.map fun p => .str (Tx p))] (fs.length + 0) = some (.lst (ps.map fun p => .str (Tx p))) := by rw [look_at]; rfl
    have it : evI G fs [] none (.val (.bm .split (.var 0) [.con (.str (Tx [32]))])) [some (.str (Tx cs)), some (.int many), none, none, none] [] = .ok (ps.map fun p => .str (Tx p), .lists [(fs.length + 0, ps.map fun p => .str (Tx p))]) [.lst (ps.map fun p => .str (Tx p))] := by
      simp only [evI, sp, bnd_ok, valI, itemsOf, listAt, lk, listWt]
    have st : stays fs [.lst (ps.map fun p => .str (Tx p))] (.lists [(fs.length + 0, ps.map fun p => .str (Tx p))]) = true := by
      simp only [stays, List.all_cons, List.all_nil, Bool.and_true, decide_eq_true_eq]
      exact lk
    have lo : exec G fs [] none (.loop (.nm 2) (.val (.bm .split (.var 0) [.con (.str (Tx [32]))])) gBody) [some (.str (Tx cs)), some (.int many), none, none, none] [] =
        .ok [some (.str (Tx cs)), some (.int many), y2, y3, y4] (if ps.all (good1 many) then .nx else .rt (.bl false)) (.lst (ps.map fun p => .str (Tx p)) :: g') := by
      simp only [exec, it, rs_ok, st, Bool.not_true, Bool.false_eq_true, if_false, lockS]
      refine (congrArg (RS.mapS _ _) lp).trans ?_
      simp only [RS.mapS, unlockS]
    cases ok : ps.all (good1 many) with
    | true =>
      rw [ok] at lo
      exact ⟨_, _, (exs_nx ((ex_ifF c0).trans exs_nil)).trans ((exs_nx lo).trans (exs_rt (ex_ret ev_con)))⟩
    | false =>
      rw [ok] at lo
      exact ⟨_, _, (exs_nx ((ex_ifF c0).trans exs_nil)).trans (exs_rt lo)⟩
end Sv.Lw
end -- Pl10
section -- Pl11
set_option Elab.async false
set_option linter.all false
set_option maxRecDepth 100000
set_option maxHeartbeats 4000000
set_option exponentiation.threshold 3000
namespace Sv.Lw
open PySem (Str PyData)
/-! ### the tests agree -/
theorem valN_app (a b : List Nat) : valN (a ++ b) = b.foldl (fun a c => a * 10 + (c - 48)) (valN a) := by
  unfold valN
  rw [List.foldl_append]
theorem fold_ge (b : List Nat) : ∀ n : Nat, n * 10 ^ b.length ≤ b.foldl (fun a c => a * 10 + (c - 48)) n := by
  induction b with
  | nil => intro n; simp
  | cons c r ih =>
    intro n
    rw [List.foldl_cons, List.length_cons]
    refine Nat.le_trans ?_ (ih (n * 10 + (c - 48)))
    rw [Nat.pow_succ, Nat.mul_comm (10 ^ r.length) 10, ← Nat.mul_assoc]
    exact Nat.mul_le_mul_right _ (by omega)
theorem fold_lt (b : List Nat) (hb : b.all isDig = true) : ∀ n : Nat, b.foldl (fun a c => a * 10 + (c - 48)) n < (n + 1) * 10 ^ b.length := by
  induction b with
  | nil => intro n; simp
  | cons c r ih =>
    intro n
    simp only [List.all_cons, Bool.and_eq_true] at hb
    rw [List.foldl_cons, List.length_cons]
    refine Nat.lt_of_lt_of_le (ih hb.2 (n * 10 + (c - 48))) ?_
    rw [Nat.pow_succ, Nat.mul_comm (10 ^ r.length) 10, ← Nat.mul_assoc]
    have : isDig c = true := hb.1
    unfold isDig at this
    simp only [Bool.and_eq_true, decide_eq_true_eq] at this
    exact Nat.mul_le_mul_right _ (by omega)
theorem valN_lt {cs : List Nat} (h : cs.all isDig = true) : valN cs < 10 ^ cs.length := by
  have := fold_lt cs h 0
  simpa [valN] using this
/-- a number without figures in vain is as large as it is long -/
theorem valN_ge {c : Nat} {r : List Nat} (hc : isDig c = true) (h : c ≠ 48) : 10 ^ r.length ≤ valN (c :: r) := by
  have : valN (c :: r) = r.foldl (fun a c => a * 10 + (c - 48)) (c - 48) := by
    unfold valN
    rw [List.foldl_cons]
    simp
  rw [this]
  refine Nat.le_trans ?_ (fold_ge r (c - 48))
  unfold isDig at hc
  simp only [Bool.and_eq_true, decide_eq_true_eq] at hc
  exact Nat.le_mul_of_pos_left _ (by omega)
theorem isNum_cases {m : Nat} {cs : List Nat} (h : isNum m cs = true) : cs.length ≤ m ∧ cs.all isDig = true ∧ (cs = [48] ∨ ∃ c r, cs = c :: r ∧ c ≠ 48) := by
  unfold isNum at h
  simp only [Bool.and_eq_true, Bool.or_eq_true, decide_eq_true_eq, Bool.not_eq_true'] at h
  obtain ⟨⟨⟨h1, h2⟩, h3⟩, h4⟩ := h
  refine ⟨h2, h3, ?_⟩
  rcases h4 with h4 | h4
  · cases cs with
    | nil => cases h1
    | cons c r => exact .inr ⟨c, r, rfl, by simpa using h4⟩
  · exact .inl h4
theorem isNum_mono {a b : Nat} {cs : List Nat} (h : isNum a cs = true) (hl : cs.length ≤ b) : isNum b cs = true := by
  unfold isNum at h ⊢
  simp only [Bool.and_eq_true, decide_eq_true_eq] at h ⊢
  exact ⟨⟨⟨h.1.1.1, hl⟩, h.1.2⟩, h.2⟩
theorem numIn_non {cs : List Nat} {m : Int} : isNon (numIn cs m) = !(isNum 60 cs && decide ((valN cs : Int) ≤ m)) := by
  unfold numIn
  by_cases h : isNum 60 cs = true
  · by_cases h2 : (valN cs : Int) ≤ m
    · rw [if_pos ⟨h, h2⟩, h, decide_eq_true h2]; rfl
    · rw [if_neg (fun z => h2 z.2), h, decide_eq_false h2]; rfl
  · have h' : isNum 60 cs = false := by simpa using h
    rw [if_neg (fun z => h z.1), h']
    rfl
/-- a small number has one figure -/
theorem small_one {cs : List Nat} {many : Int} (hm : many ≤ 10) : (isNum 60 cs && decide ((valN cs : Int) ≤ many - 1)) = (isNum 1 cs && decide ((valN cs : Int) < many)) := by
  by_cases h : isNum 60 cs = true
  case neg =>
    have h' : isNum 60 cs = false := by simpa using h
    have h1 : isNum 1 cs = false := by
      cases q : isNum 1 cs with
      | false => rfl
      | true => exact absurd (isNum_mono q (Nat.le_trans (isNum_cases q).1 (by decide))) h
    rw [h', h1]
    rfl
  rw [h]
  obtain ⟨h1, h2, h3⟩ := isNum_cases h
  by_cases hv : (valN cs : Int) < many
  · rw [decide_eq_true hv, decide_eq_true (by omega)]
    have : cs.length ≤ 1 := by
      rcases h3 with rfl | ⟨c, r, rfl, hc⟩
      · simp
      · simp only [List.all_cons, Bool.and_eq_true] at h2
        have := valN_ge (r := r) h2.1 hc
        cases r with
        | nil => simp
        | cons d r =>
          exfalso
          have : 10 ^ 1 ≤ 10 ^ (d :: r).length := Nat.pow_le_pow_right (by decide) (by simp)
          omega
    rw [isNum_mono h this]
  · rw [decide_eq_false hv, decide_eq_false (by omega), Bool.and_false, Bool.and_false]
theorem maxv (cs : List Nat) (h : isNum 60 cs = true) : (valN cs : Int) ≤ MAXV := by
  obtain ⟨h1, h2, _⟩ := isNum_cases h
  have a := valN_lt h2
  have b : 10 ^ cs.length ≤ 10 ^ 60 := Nat.pow_le_pow_right (by decide) h1
  unfold MAXV
  have c : (10 : Nat) ^ 60 = 1000000000000000000000000000000000000000000000000000000000000 := by decide
  omega
theorem zero_of {cs : List Nat} (h : isNum 60 cs = true) : valN cs = 0 ↔ cs = [48] := by
  obtain ⟨_, h2, h3⟩ := isNum_cases h
  refine ⟨fun z => ?_, fun z => by rw [z]; rfl⟩
  rcases h3 with h3 | ⟨c, r, rfl, hc⟩
  · exact h3
  · simp only [List.all_cons, Bool.and_eq_true] at h2
    have := valN_ge (r := r) h2.1 hc
    have : 0 < 10 ^ r.length := Nat.pow_pos (by decide)
    omega
theorem valIn_non (v : List Nat) : isNon (valIn v) = !goodV v := by
  unfold valIn goodV
  by_cases h : v.take 1 = [45]
  · rw [if_pos h, if_pos h]
    by_cases hn : isNum 60 (v.drop 1) = true
    · have e : numIn (v.drop 1) MAXV = .int (valN (v.drop 1)) := by
        unfold numIn
        rw [if_pos ⟨hn, maxv _ hn⟩]
      rw [e, hn, Bool.and_true]
      by_cases hz : v.drop 1 = [48]
      · have : valN (v.drop 1) = 0 := (zero_of hn).mpr hz
        simp only [this, hz]
        rfl
      · have : valN (v.drop 1) ≠ 0 := fun z => hz ((zero_of hn).mp z)
        have : ¬ ((valN (v.drop 1) : Int) = 0) := by omega
        simp only [this, if_false, decide_eq_false hz]
        rfl
    · have hn' : isNum 60 (v.drop 1) = false := by simpa using hn
      have e : numIn (v.drop 1) MAXV = .non := by
        unfold numIn
        rw [if_neg fun z => hn z.1]
      rw [e, hn', Bool.and_false]
      rfl
  · rw [if_neg h, if_neg h, numIn_non]
    cases hn : isNum 60 v with
    | false => rfl
    | true => rw [decide_eq_true (maxv v hn)]; rfl
theorem part_good (many : Int) (hm : many ≤ 10) (p : List Nat) : partOk many p = good1 many p := by
  unfold partOk good1 partD
  simp only
  rw [numIn_non, small_one hm]
  by_cases h : (splitL 58 p).length = 2
  · rw [if_pos h, decide_eq_true h, valIn_non]
    cases isNum 1 ((splitL 58 p).headD []) <;> cases decide ((valN ((splitL 58 p).headD []) : Int) < many) <;> cases goodV ((splitL 58 p).getD 1 []) <;> rfl
  · rw [if_neg h, decide_eq_false h]
    simp [isNon]
end Sv.Lw
end -- Pl11
section -- Pl12
set_option Elab.async false
set_option linter.all false
set_option maxRecDepth 100000
set_option maxHeartbeats 4000000
set_option exponentiation.threshold 3000
namespace Sv.Lw
open PySem (Str PyData)
open PySem.NumText (digitsVal AllDigits)
theorem allDig {cs : List Nat} (h : cs.all isDig = true) : AllDigits cs := fun c hc => by
  have := List.all_eq_true.mp h c hc
  unfold isDig at this
  simpa using this
theorem chars_back : ∀ {cs : List Nat}, cs.all isDig = true → (cs.map Char.ofNat).map Char.toNat = cs
  | [], _ => rfl
  | c :: r, h => by
    simp only [List.all_cons, Bool.and_eq_true] at h
    have hc : isDig c = true := h.1
    unfold isDig at hc
    simp only [Bool.and_eq_true, decide_eq_true_eq] at hc
    have : (Char.ofNat c).toNat = c := by
      have : c.isValidChar := .inl (by omega)
      simp [Char.ofNat, this, Char.toNat, Char.ofNatAux]
    rw [List.map_cons, List.map_cons, this, chars_back h.2]
/-- a number's text is the number -/
theorem digs_val {m : Nat} {cs : List Nat} (h : isNum m cs = true) : digs (valN cs) = cs := by
  obtain ⟨_, h2, h3⟩ := isNum_cases h
  have hv : valN cs = digitsVal cs := rfl
  unfold digs
  rw [hv]
  match cs, h3 with
  | [], h3 =>
    rcases h3 with h3 | ⟨c, r, h3, _⟩ <;> cases h3
  | c :: r, h3 =>
    rw [PySem.NumText.toDigits_digitsVal r.length (c :: r) rfl (allDig h2) ?_, chars_back h2]
    rcases h3 with h3 | ⟨d, q, e, hd⟩
    · cases h3
      exact .inl rfl
    · cases e
      have := (allDig h2).head
      exact .inr ⟨c, r, rfl, by omega⟩
theorem strL_val {m : Nat} {cs : List Nat} (h : isNum m cs = true) : strL (valN cs : Int) = cs := by
  unfold strL
  rw [if_neg (by omega)]
  exact digs_val h
/-- parts joined -/
def joinB (sep : Nat) : List (List Nat) → List Nat
  | [] => []
  | [x] => x
  | x :: r => x ++ [sep] ++ joinB sep r
theorem join_split (sep : Nat) : ∀ cs : List Nat, joinB sep (splitL sep cs) = cs
  | [] => rfl
  | c :: r => by
    have ih := join_split sep r
    unfold splitL
    split
    · rename_i h
      cases e : splitL sep r with
      | nil => exact absurd e (splitL_ne _ _)
      | cons w ws =>
        rw [e] at ih
        show [] ++ [sep] ++ joinB sep (w :: ws) = _
        rw [ih, h]
        rfl
    · split
      · rename_i w ws e
        rw [e] at ih
        cases ws with
        | nil => show c :: w = _; rw [show w = r from ih]
        | cons v vs =>
          show (c :: w) ++ [sep] ++ joinB sep (v :: vs) = _
          have : w ++ [sep] ++ joinB sep (v :: vs) = r := ih
          rw [← this]
          rfl
      · rename_i e
        exact absurd e (splitL_ne _ _)
theorem joinL_B : ∀ ws : List (List Nat), joinL ws = joinB 32 ws
  | [] => rfl
  | [x] => rfl
  | x :: y :: r => by
    have := joinL_B (y :: r)
    simp only [joinL, joinB] at this ⊢
    rw [this]
/-- a good part, its numbers -/
def numsOf (p : List Nat) : Int × Int := ((valN ((splitL 58 p).headD []) : Int), if ((splitL 58 p).getD 1 []).take 1 = [45] then -(valN (((splitL 58 p).getD 1 []).drop 1) : Int) else (valN ((splitL 58 p).getD 1 []) : Int))
theorem part_nums {many : Int} (hm : many ≤ 10) {p : List Nat} (h : good1 many p = true) : tupOf many p = pairD (numsOf p) ∧ pairL (numsOf p) = p ∧ Small (numsOf p) := by
  have hj := join_split 58 p
  unfold good1 at h
  simp only [Bool.and_eq_true, decide_eq_true_eq] at h
  obtain ⟨⟨h1, h2, h3⟩, h4⟩ := h
  unfold tupOf partD numsOf
  match hs : splitL 58 p, h1 with
  | [w0, w1], _ =>
  rw [hs] at h2 h3 h4 hj
  have h2 : isNum 1 w0 = true := h2
  have h3 : (valN w0 : Int) < many := h3
  have h4 : goodV w1 = true := h4
  have hj : w0 ++ [58] ++ w1 = p := hj
  have n0 : isNum 60 w0 = true := isNum_mono h2 (Nat.le_trans (isNum_cases h2).1 (by decide))
  have e0 : numIn w0 (many - 1) = .int (valN w0) := by
    unfold numIn
    rw [if_pos ⟨n0, by omega⟩]
  have big : ∀ {w : List Nat}, isNum 60 w = true → valN w < 10 ^ 500 := fun hw => Nat.lt_of_lt_of_le (valN_lt (isNum_cases hw).2.1) (Nat.pow_le_pow_right (by decide) (Nat.le_trans (isNum_cases hw).1 (by decide)))
  show D.tup [numIn w0 (many - 1), valIn w1] = pairD ((valN w0 : Int), if w1.take 1 = [45] then -(valN (w1.drop 1) : Int) else (valN w1 : Int)) ∧ pairL ((valN w0 : Int), if w1.take 1 = [45] then -(valN (w1.drop 1) : Int) else (valN w1 : Int)) = p ∧ Small ((valN w0 : Int), if w1.take 1 = [45] then -(valN (w1.drop 1) : Int) else (valN w1 : Int))
  rw [e0]
  unfold goodV at h4
  by_cases hn : w1.take 1 = [45]
  · rw [if_pos hn] at h4 ⊢
    simp only [Bool.and_eq_true, Bool.not_eq_true', decide_eq_false_iff_not] at h4
    obtain ⟨z, n1⟩ := h4
    have nz : valN (w1.drop 1) ≠ 0 := fun q => z ((zero_of n1).mp q)
    have e1 : valIn w1 = .int (-(valN (w1.drop 1) : Int)) := by
      unfold valIn
      have : numIn (w1.drop 1) MAXV = .int (valN (w1.drop 1)) := by
        unfold numIn
        rw [if_pos ⟨n1, maxv _ n1⟩]
      rw [if_pos hn, this]
      show (if ((valN (w1.drop 1) : Int)) = 0 then _ else _) = _
      rw [if_neg (by omega)]
    have ew : w1 = 45 :: w1.drop 1 := by
      cases w1 with
      | nil => cases hn
      | cons c r => simp at hn; rw [hn]; rfl
    refine ⟨by rw [e1]; rfl, ?_, ?_⟩
    · show strL (valN w0 : Int) ++ [58] ++ strL (-(valN (w1.drop 1) : Int)) = p
      rw [strL_val n0]
      have : strL (-(valN (w1.drop 1) : Int)) = w1 := by
        unfold strL
        rw [if_pos (by omega)]
        have : (-(valN (w1.drop 1) : Int)).natAbs = valN (w1.drop 1) := by omega
        rw [this, digs_val n1]
        exact ew.symm
      rw [this, hj]
    · have a := big n0
      have b := big n1
      exact ⟨by show (valN w0 : Int).natAbs < _; omega, by show (-(valN (w1.drop 1) : Int)).natAbs < _; omega⟩
  · rw [if_neg hn] at h4 ⊢
    have e1 : valIn w1 = .int (valN w1) := by
      unfold valIn numIn
      rw [if_neg hn, if_pos ⟨h4, maxv _ h4⟩]
    refine ⟨by rw [e1]; rfl, ?_, ?_⟩
    · show strL (valN w0 : Int) ++ [58] ++ strL (valN w1 : Int) = p
      rw [strL_val n0, strL_val h4, hj]
    · have a := big n0
      have b := big h4
      exact ⟨by show (valN w0 : Int).natAbs < _; omega, by show (valN w1 : Int).natAbs < _; omega⟩
end Sv.Lw
end -- Pl12
section -- Pl13
set_option Elab.async false
set_option linter.all false
set_option maxRecDepth 100000
set_option maxHeartbeats 4000000
set_option exponentiation.threshold 3000
namespace Sv.Lw
open PySem (Str PyData)
theorem map_pairs {many : Int} (hm : many ≤ 10) : ∀ {ps : List (List Nat)}, ps.all (good1 many) = true → ps.map (tupOf many) = (ps.map numsOf).map pairD ∧ (ps.map numsOf).map pairL = ps ∧ ∀ q ∈ ps.map numsOf, Small q
  | [], _ => ⟨rfl, rfl, fun q hq => by cases hq⟩
  | p :: ps, h => by
    simp only [List.all_cons, Bool.and_eq_true] at h
    obtain ⟨a, b, c⟩ := part_nums hm h.1
    obtain ⟨d, e, f⟩ := map_pairs hm h.2
    refine ⟨by simp only [List.map_cons, a, d], by simp only [List.map_cons, b, e], fun q hq => ?_⟩
    rw [List.map_cons] at hq
    rcases List.mem_cons.mp hq with rfl | hq
    · exact c
    · exact f q hq
theorem text_back {many : Int} (hm : many ≤ 10) {cs : List Nat} (h : (splitL 32 cs).all (good1 many) = true) : textL ((splitL 32 cs).map numsOf) = cs := by
  obtain ⟨_, b, _⟩ := map_pairs hm h
  unfold textL
  rw [if_neg]
  · rw [b, joinL_B, join_split]
  · intro z
    exact splitL_ne 32 cs (List.map_eq_nil_iff.mp z)
/-- the answer to a text -/
def ERR : D := .tup [.str (Tx [101, 114, 114, 111, 114]), .int 0]
def raisedD (cs : List Nat) (many : Int) : D := if goodT cs many then .str (Tx cs) else ERR
def HasParse (G : Orc) : Prop := ∀ (cs : List Nat) (many : Int) (fr lv : Sto), cs.length ≤ 30000 → G.call 182 [.str (Tx cs), .int many] [] fr lv = parseR cs many lv
def HasText (G : Orc) : Prop := ∀ (ws : List (Int × Int)) (fr lv : Sto), (∀ p ∈ ws, Small p) → ws.length ≤ 900 → G.call 183 [.tup (ws.map pairD)] [] fr lv = .ok (.str (Tx (textL ws))) lv
theorem parse_good {many : Int} (hm : many ≤ 10) {cs : List Nat} (lv : Sto) : parseR cs many lv = if goodT cs many then .ok (.tup ((if cs = [45] then [] else (splitL 32 cs).map numsOf).map pairD)) lv else .ex 7 [.int 0] lv := by
  unfold parseR goodT
  by_cases h : cs = [45]
  · rw [if_pos h, decide_eq_true h, Bool.true_or, if_pos rfl, if_pos h]
    rfl
  · rw [if_neg h, decide_eq_false h, Bool.false_or]
    have : (splitL 32 cs).all (partOk many) = (splitL 32 cs).all (good1 many) := by
      congr 1
      funext p
      exact part_good many hm p
    rw [this]
    by_cases g : (splitL 32 cs).all (good1 many) = true
    · rw [if_pos g, if_pos g, if_neg h, (map_pairs hm g).1]
    · rw [if_neg g, if_neg g]
theorem raised (G : Orc) (h1 : HasParse G) (h2 : HasText G) (hx : G.exs.contains 7 = true) (fr lv : Sto) (cs : List Nat) (many : Int) (hm : many ≤ 10) (hl : cs.length ≤ 30000) (hn : (splitL 32 cs).length ≤ 900) :
    runFn G f_177 [.str (Tx cs), .int many] [] fr lv = .ok (raisedD cs many) lv := by
  have old : ∀ n, D.old n (raisedD cs many) = true := fun n => by
    unfold raisedD ERR
    split <;> rfl
  suffices h : ∃ ρ s, execs G (fr ++ lv) [] none f_177.body [some (.str (Tx cs)), some (.int many), none, none] [] = .ok ρ (.rt (raisedD cs many)) s by
    obtain ⟨ρ, s, e⟩ := h
    have : runFn G f_177 [.str (Tx cs), .int many] [] fr lv = endQ (fr.length + lv.length) lv (execs G (fr ++ lv) [] none f_177.body [some (.str (Tx cs)), some (.int many), none, none] []) := rfl
    rw [this, e, endQ_rt _ _ _ _ _ (old _)]
  obtain ⟨fs, hfs⟩ : ∃ fs, fs = fr ++ lv := ⟨_, rfl⟩
  rw [← hfs]
  have a0 : exec G fs [] none (.asg (.nm 2) (.con .non)) [some (.str (Tx cs)), some (.int many), none, none] [] = .ok [some (.str (Tx cs)), some (.int many), some .non, none] .nx [] := ex_asg ev_con (by simp)
  have pc : ev G fs [] none (.call 182 [.var 0, .var 1]) [some (.str (Tx cs)), some (.int many), some .non, none] [] = parseR cs many [] :=
    (ev_call (evs_cons (ev_var rfl) (evs_cons (ev_var rfl) evs_nil))).trans (h1 _ _ _ _ hl)
  rw [parse_good hm] at pc
  have fin : ∀ ρ : Env, varD ρ 2 = some (raisedD cs many) → execs G fs [] none [.ret (.var 2)] ρ [] = .ok ρ (.rt (raisedD cs many)) [] := fun ρ h => exs_rt (ex_ret (ev_var h))
  by_cases g : goodT cs many = true
  · rw [if_pos g] at pc
    have tx : textL (if cs = [45] then [] else (splitL 32 cs).map numsOf) = cs := by
      by_cases h : cs = [45]
      · rw [if_pos h, h]; rfl
      · rw [if_neg h]
        unfold goodT at g
        rw [decide_eq_false h, Bool.false_or] at g
        exact text_back hm g
    have sm : ∀ q ∈ (if cs = [45] then [] else (splitL 32 cs).map numsOf), Small q := by
      by_cases h : cs = [45]
      · rw [if_pos h]; intro q hq; cases hq
      · rw [if_neg h]
        unfold goodT at g
        rw [decide_eq_false h, Bool.false_or] at g
        exact (map_pairs hm g).2.2
    have ln : (if cs = [45] then [] else (splitL 32 cs).map numsOf).length ≤ 900 := by
      split
      · simp
      · rw [List.length_map]; exact hn
    have tc : ev G fs [] none (.call 183 [.call 182 [.var 0, .var 1]]) [some (.str (Tx cs)), some (.int many), some .non, none] [] = .ok (.str (Tx cs)) [] := by
      refine (ev_call (evs_cons pc evs_nil)).trans ?_
      rw [h2 _ _ _ sm ln, tx]
    have t1 : exec G fs [] none (.tryx [.asg (.nm 2) (.call 183 [.call 182 [.var 0, .var 1]])] [(7, some 3, [.asg (.nm 2) (.tup [.con (.str (Tx [101, 114, 114, 111, 114])), .exf])])]) [some (.str (Tx cs)), some (.int many), some .non, none] [] = .ok [some (.str (Tx cs)), some (.int many), some (.str (Tx cs)), none] .nx [] := by
      have b : execs G fs [] none [.asg (.nm 2) (.call 183 [.call 182 [.var 0, .var 1]])] [some (.str (Tx cs)), some (.int many), some .non, none] [] = .ok [some (.str (Tx cs)), some (.int many), some (.str (Tx cs)), none] .nx [] := (exs_nx (ex_asg tc (by simp))).trans exs_nil
      rw [exec, b]
    refine ⟨_, _, (exs_nx a0).trans ((exs_nx t1).trans (fin _ ?_))⟩
    unfold raisedD
    rw [if_pos g]
    rfl
  · rw [if_neg g] at pc
    have tc : ev G fs [] none (.call 183 [.call 182 [.var 0, .var 1]]) [some (.str (Tx cs)), some (.int many), some .non, none] [] = .ex 7 [.int 0] [] := by
      rw [ev, evs, pc]
      rfl
    have t1 : exec G fs [] none (.tryx [.asg (.nm 2) (.call 183 [.call 182 [.var 0, .var 1]])] [(7, some 3, [.asg (.nm 2) (.tup [.con (.str (Tx [101, 114, 114, 111, 114])), .exf])])]) [some (.str (Tx cs)), some (.int many), some .non, none] [] = .ok [some (.str (Tx cs)), some (.int many), some ERR, none] .nx [] := by
      have b : execs G fs [] none [.asg (.nm 2) (.call 183 [.call 182 [.var 0, .var 1]])] [some (.str (Tx cs)), some (.int many), some .non, none] [] = .ex 7 [.int 0] [some (.str (Tx cs)), some (.int many), some .non, none] [] := by
        refine exs_ex ?_
        rw [exec, tc]
        rfl
      have b2 : execs G fs [] (some (7, [.int 0])) [.asg (.nm 2) (.tup [.con (.str (Tx [101, 114, 114, 111, 114])), .exf])] [some (.str (Tx cs)), some (.int many), some .non, none] [] = .ok [some (.str (Tx cs)), some (.int many), some ERR, none] .nx [] := by
        refine (exs_nx (ex_asg (x := ERR) (ev_tup (evs_cons ev_con (evs_cons (x := .int 0) ?_ evs_nil)) (by unfold lineMax; simp)) (by simp))).trans exs_nil
        simp only [ev]
      rw [exec, b]
      simp only [execH, hx, Bool.not_true, Bool.false_eq_true, if_false, if_true]
      rw [if_neg (by simp)]
      refine (congrArg (fun z : RS => match z with
        | .ok ρ f s => RS.ok (ρ.set 3 none) f s
        | .ex .. => .bad
        | .bad => .bad) (show execs G fs [] (some (7, [.int 0])) [.asg (.nm 2) (.tup [.con (.str (Tx [101, 114, 114, 111, 114])), .exf])] ([some (.str (Tx cs)), some (.int many), some .non, none].set 3 none) [] = _ from b2)).trans ?_
      rfl
    refine ⟨_, _, (exs_nx a0).trans ((exs_nx t1).trans (fin _ ?_))⟩
    unfold raisedD
    rw [if_neg g]
    rfl
end Sv.Lw
end -- Pl13
section -- Pl14
set_option Elab.async false
set_option linter.all false
set_option maxRecDepth 100000
set_option maxHeartbeats 4000000
set_option exponentiation.threshold 3000
namespace Sv.Lw
open PySem (Str PyData)
/-! ### the drawn numbers -/
structure Pen (fr lv : Sto) (k c : Nat) : Prop where
  ex : ∃ (cells : List Int) (a t : Int), lv[k]? = some (.lst [.ref (fr.length + c), .int a, .int t]) ∧ lv[c]? = some (.lst (cells.map .int)) ∧ c ≠ k ∧ 0 ≤ a ∧ 0 ≤ t ∧ cells.length ≤ 63
/-- all else is as it was -/
def Same (k : Nat) (lv lv' : Sto) : Prop := lv.length ≤ lv'.length ∧ ∀ i, i < lv.length → i ≠ k → lv'[i]? = lv[i]?
theorem Same.refl {k : Nat} {lv : Sto} : Same k lv lv := ⟨Nat.le_refl _, fun _ _ _ => rfl⟩
theorem Same.trans {k : Nat} {a b c : Sto} (h : Same k a b) (g : Same k b c) : Same k a c := ⟨Nat.le_trans h.1 g.1, fun i hi hk => (g.2 i (Nat.lt_of_lt_of_le hi h.1) hk).trans (h.2 i hi hk)⟩
theorem Same.app {k : Nat} {lv : Sto} (o : O) : Same k lv (lv ++ [o]) := ⟨by simp, fun i hi _ => List.getElem?_append_left hi⟩
theorem Same.set {k : Nat} {lv : Sto} (o : O) : Same k lv (lv.set k o) := ⟨by simp, fun i _ hk => List.getElem?_set_ne (fun z => hk z.symm)⟩
theorem lt_of_get {α : Type} {l : List α} {i : Nat} {a : α} (h : l[i]? = some a) : i < l.length := (List.getElem?_eq_some_iff.mp h).1
/-- _law_pen -/
theorem law_pen (G : Orc) (fr lv : Sto) (ns : List Int) (l : Nat) (hl : look fr lv l = some (.lst (ns.map .int))) (hn : ns.length ≤ 63) : ∃ lv', runFn G f_68 [.ref l] [] fr lv = .ok (.ref (fr.length + (lv.length + 2))) lv' ∧ Pen fr lv' (lv.length + 2) (lv.length + 1) := by
  have hd : cutL (ns.map D.int) none (some 63) = ns.map D.int := by
    show List.drop 0 (List.take (clampI (ns.map D.int).length 63) (ns.map D.int)) = _
    have : clampI (ns.map D.int).length 63 = (ns.map D.int).length := by
      unfold clampI
      rw [if_neg (by decide), List.length_map]
      show min 63 ns.length = ns.length
      omega
    rw [this, List.take_length, List.drop_zero]
  have e1 : ev G fr [] none (.slc (.var 0) none (some (.con (.int 63)))) [some (.ref l)] lv = .ok (.ref (fr.length + lv.length)) (lv ++ [.lst (ns.map .int)]) := by
    simp only [ev, evo, varD, List.getElem?_cons_zero, of_ok, bnd_ok, slcD, okI, listAt, hl, hd, new]
    rw [if_pos (by decide)]
  have e2 : ev G fr [] none (.bi .list [.slc (.var 0) none (some (.con (.int 63)))]) [some (.ref l)] lv = .ok (.ref (fr.length + (lv.length + 1))) (lv ++ [.lst (ns.map .int)] ++ [.lst (ns.map .int)]) := by
    rw [ev_bi1 (by decide) e1]
    have := look_new fr lv (.lst (ns.map D.int))
    simp only [bi, walkD, itemsOf, listAt, this, newL]
    rw [if_pos (by rw [List.length_map]; unfold lineMax; omega)]
    simp [new]
  have e3 := ev_lst (G := G) (fr := fr) (φ := []) (η := none) (evs_cons e2 (evs_cons (ev_con (x := .int 0)) (evs_cons (ev_con (x := .int 0)) evs_nil))) (by unfold lineMax; simp)
  refine ⟨lv ++ [.lst (ns.map .int)] ++ [.lst (ns.map .int)] ++ [.lst [.ref (fr.length + (lv.length + 1)), .int 0, .int 0]], ?_, ⟨ns, 0, 0, ?_, ?_, by omega, by decide, by decide, hn⟩⟩
  · have e0 : runFn G f_68 [.ref l] [] fr lv = endR (execs G fr [] none f_68.body [some (.ref l)] lv) := rfl
    rw [e0]
    have : execs G fr [] none f_68.body [some (.ref l)] lv = .ok [some (.ref l)] (.rt (.ref (fr.length + (lv.length + 2)))) (lv ++ [.lst (ns.map .int)] ++ [.lst (ns.map .int)] ++ [.lst [.ref (fr.length + (lv.length + 1)), .int 0, .int 0]]) := by
      refine exs_rt (ex_ret (e3.trans ?_))
      simp
    rw [this]
    rfl
  · rw [List.getElem?_append_right (by simp)]
    simp
  · rw [List.getElem?_append_left (by simp), List.getElem?_append_right (by simp)]
    simp
end Sv.Lw
end -- Pl14
section -- Pl15
set_option Elab.async false
set_option linter.all false
set_option maxRecDepth 100000
set_option maxHeartbeats 4000000
set_option exponentiation.threshold 3000
namespace Sv.Lw
open PySem (Str PyData)
section
variable {G : Orc} {fr : Sto} {φ : List FV} {η : Option (Nat × List D)} {a b : C} {ρ : Env} {lv s1 s2 : Sto} {x y : Int}
theorem ev_addI (h1 : ev G fr φ η a ρ lv = .ok (.int x) s1) (h2 : ev G fr φ η b ρ s1 = .ok (.int y) s2) : ev G fr φ η (.bin .add a b) ρ lv = .ok (.int (x + y)) s2 := (ev_bin h1 h2).trans rfl
theorem ev_subI (h1 : ev G fr φ η a ρ lv = .ok (.int x) s1) (h2 : ev G fr φ η b ρ s1 = .ok (.int y) s2) : ev G fr φ η (.bin .sub a b) ρ lv = .ok (.int (x - y)) s2 := (ev_bin h1 h2).trans rfl
theorem ev_mulI (h1 : ev G fr φ η a ρ lv = .ok (.int x) s1) (h2 : ev G fr φ η b ρ s1 = .ok (.int y) s2) (h : (small x || small y) = true) : ev G fr φ η (.bin .mul a b) ρ lv = .ok (.int (x * y)) s2 := (ev_bin h1 h2).trans (if_pos h)
theorem ev_modI (h1 : ev G fr φ η a ρ lv = .ok (.int x) s1) (h2 : ev G fr φ η b ρ s1 = .ok (.int y) s2) (h : 0 < y) : ev G fr φ η (.bin .mod a b) ρ lv = .ok (.int (x % y)) s2 := (ev_bin h1 h2).trans (if_pos h)
theorem ev_divI (h1 : ev G fr φ η a ρ lv = .ok (.int x) s1) (h2 : ev G fr φ η b ρ s1 = .ok (.int y) s2) (h : 0 < y ∧ y < 2 ^ 1000) : ev G fr φ η (.bin .fdiv a b) ρ lv = .ok (.int (x / y)) s2 := (ev_bin h1 h2).trans (if_pos h)
theorem ev_powI (h1 : ev G fr φ η a ρ lv = .ok (.int x) s1) (h2 : ev G fr φ η b ρ s1 = .ok (.int y) s2) (h : 0 ≤ y ∧ y ≤ 1000 ∧ small x = true) : ev G fr φ η (.bin .pow a b) ρ lv = .ok (.int (x ^ y.toNat)) s2 := (ev_bin h1 h2).trans (if_pos h)
end
theorem lt_int (fr lv : Sto) (a b : Int) : cop fr lv .lt (.int a) (.int b) = some (decide (a < b)) := rfl
theorem sm {i : Int} (h : -(2 ^ 64) < i ∧ i < 2 ^ 64) : small i = true := by
  unfold small
  exact decide_eq_true h
def PM : Int := 2305843009213693951
def fBody : List S := [.asg (.nm 4) (.bin .mod (.bin .add (.bin .add (.bin .mul (.var 4) (.var 4)) (.bin .mul (.bin .mul (.con (.int 69621)) (.bin .add (.var 6) (.con (.int 1)))) (.bin .add (.var 1) (.con (.int 1))))) (.var 2)) (.var 3)),
  .asg (.nm 5) (.bin .add (.bin .mul (.var 5) (.var 3)) (.var 4))]
theorem f_turn (G : Orc) (fr : Sto) (pn x6 : Option D) (at_ cell st fd t : Int) (s : Sto) (h1 : 0 ≤ st) (h2 : st < PM) (h3 : 0 ≤ fd) (h4 : 0 ≤ t) (h5 : t ≤ 100) :
    ∃ st' fd' : Int, 0 ≤ st' ∧ st' < PM ∧ 0 ≤ fd' ∧ execs G fr [] none fBody [pn, some (.int at_), some (.int cell), some (.int PM), some (.int st), some (.int fd), some (.int t)] s = .ok [pn, some (.int at_), some (.int cell), some (.int PM), some (.int st'), some (.int fd'), some (.int t)] .nx s := by
  have hp : (0 : Int) < PM := by decide
  have hPM : PM < 2 ^ 62 := by decide
  have big : (2 : Int) ^ 62 < 2 ^ 64 := by decide
  obtain ⟨st', hst⟩ : ∃ st' : Int, st' = (st * st + 69621 * (t + 1) * (at_ + 1) + cell) % PM := ⟨_, rfl⟩
  have a1 : 0 ≤ st' := by rw [hst]; exact Int.emod_nonneg _ (by decide)
  have a2 : st' < PM := by rw [hst]; exact Int.emod_lt_of_pos _ hp
  refine ⟨st', fd * PM + st', a1, a2, Int.add_nonneg (Int.mul_nonneg h3 (by decide)) a1, ?_⟩
  refine (exs_nx (ex_asg (x := .int st') (s1 := s) ?_ (by simp))).trans ((exs_nx (ex_asg (x := .int (fd * PM + st')) (s1 := s) ?_ (by simp))).trans exs_nil)
  · rw [hst]
    have sst : small st = true := sm ⟨by have : -(2 : Int) ^ 64 < 0 := (by decide); omega, by omega⟩
    refine ev_modI (ev_addI (ev_addI (ev_mulI (ev_var rfl) (ev_var rfl) (by rw [sst]; rfl)) (ev_mulI (ev_mulI (ev_con (x := .int 69621)) (ev_addI (ev_var (x := .int t) rfl) (ev_con (x := .int 1))) (by rw [sm (i := 69621) (by decide)]; rfl)) (ev_addI (ev_var rfl) (ev_con (x := .int 1))) ?_)) (ev_var rfl)) (ev_var rfl) hp
    have : small (69621 * (t + 1)) = true := sm ⟨by have : -(2 : Int) ^ 64 < 0 := (by decide); omega, by have : (69621 * 101 : Int) < 2 ^ 64 := (by decide); omega⟩
    rw [this]
    rfl
  · have spm : small PM = true := by decide
    exact ev_addI (ev_mulI (ev_var rfl) (ev_var rfl) (by rw [spm, Bool.or_true])) (ev_var rfl)
theorem f_loop (G : Orc) (fr : Sto) (pn : Option D) (at_ cell : Int) (s : Sto) : ∀ (ts : List Int) (x6 : Option D) (st fd : Int), (∀ t ∈ ts, 0 ≤ t ∧ t ≤ 100) → 0 ≤ st → st < PM → 0 ≤ fd →
    ∃ (st' fd' : Int) (y6 : Option D), 0 ≤ fd' ∧ loopE (fun d ρ s => match asgN ρ (.nm 6) d with
      | some ρ1 => execs G fr [] none fBody ρ1 s
      | none => .bad) (fun s => stays fr s .none) (ts.map .int) [pn, some (.int at_), some (.int cell), some (.int PM), some (.int st), some (.int fd), x6] s = .ok [pn, some (.int at_), some (.int cell), some (.int PM), some (.int st'), some (.int fd'), y6] .nx s
  | [], x6, st, fd, _, _, _, h3 => ⟨st, fd, x6, h3, by simp [loopE]⟩
  | t :: ts, x6, st, fd, ht, h1, h2, h3 => by
    obtain ⟨st1, fd1, b1, b2, b3, e⟩ := f_turn G fr pn x6 at_ cell st fd t s h1 h2 h3 (ht t (by simp)).1 (ht t (by simp)).2
    obtain ⟨st', fd', y6, c1, ih⟩ := f_loop G fr pn at_ cell s ts (some (.int t)) st1 fd1 (fun u hu => ht u (by simp [hu])) b1 b2 b3
    refine ⟨st', fd', y6, c1, ?_⟩
    have ea : asgN [pn, some (.int at_), some (.int cell), some (.int PM), some (.int st), some (.int fd), x6] (.nm 6) (.int t) = some [pn, some (.int at_), some (.int cell), some (.int PM), some (.int st), some (.int fd), some (.int t)] := by
      unfold asgN
      rfl
    rw [List.map_cons, loopE]
    simp only [ea]
    rw [e]
    exact ih
/-- the last part: a number made out of the cell -/
theorem f_tail (G : Orc) (fr : Sto) (pn x3 x4 x5 x6 : Option D) (at_ cell : Int) (s : Sto) : ∃ (ρ' : Env) (n : Int), 0 ≤ n ∧ execs G fr [] none [.asg (.nm 3) (.con (.int PM)), .asg (.nm 4) (.bin .mod (.bin .add (.bin .add (.bin .mul (.var 2) (.con (.int 48271))) (.bin .mul (.con (.int 40692)) (.var 1))) (.con (.int 31))) (.var 3)), .asg (.nm 5) (.var 4),
    .loop (.nm 6) (.rng1 (.con (.int 6))) fBody, .ret (.var 5)] [pn, some (.int at_), some (.int cell), x3, x4, x5, x6] s = .ok ρ' (.rt (.int n)) s := by
  have hp : (0 : Int) < PM := by decide
  obtain ⟨st, hst⟩ : ∃ st : Int, st = (cell * 48271 + 40692 * at_ + 31) % PM := ⟨_, rfl⟩
  have a1 : 0 ≤ st := by rw [hst]; exact Int.emod_nonneg _ (by decide)
  have a2 : st < PM := by rw [hst]; exact Int.emod_lt_of_pos _ hp
  obtain ⟨st', fd', y6, c1, lp⟩ := f_loop G fr pn at_ cell s [0, 1, 2, 3, 4, 5] x6 st st (by decide) a1 a2 a1
  have lo : exec G fr [] none (.loop (.nm 6) (.rng1 (.con (.int 6))) fBody) [pn, some (.int at_), some (.int cell), some (.int PM), some (.int st), some (.int st), x6] s = .ok [pn, some (.int at_), some (.int cell), some (.int PM), some (.int st'), some (.int fd'), y6] .nx s := by
    have it : evI G fr [] none (.rng1 (.con (.int 6))) [pn, some (.int at_), some (.int cell), some (.int PM), some (.int st), some (.int st), x6] s = .ok ([0, 1, 2, 3, 4, 5].map D.int, .none) s := by
      simp only [evI, ev, bnd_ok, rngI]
      rfl
    simp only [exec, it, rs_ok, stays, Bool.not_true, Bool.false_eq_true, if_false, lockS]
    refine (congrArg (RS.mapS _ _) lp).trans ?_
    simp only [RS.mapS, unlockS]
  refine ⟨_, fd', c1, (exs_nx (ex_asg ev_con (by simp))).trans ((exs_nx (ex_asg (x := .int st) (s1 := s) ?_ (by simp))).trans ((exs_nx (ex_asg (x := .int st) (ev_var rfl) (by simp))).trans ((exs_nx lo).trans (exs_rt (ex_ret (ev_var rfl))))))⟩
  rw [hst]
  exact ev_modI (ev_addI (ev_addI (ev_mulI (ev_var rfl) (ev_con (x := .int 48271)) (by rw [sm (i := 48271) (by decide), Bool.or_true])) (ev_mulI (ev_con (x := .int 40692)) (ev_var rfl) (by rw [sm (i := 40692) (by decide), Bool.true_or]))) (ev_con (x := .int 31))) (ev_var rfl) hp
end Sv.Lw
end -- Pl15
section -- Pl16
set_option Elab.async false
set_option linter.all false
set_option maxRecDepth 100000
set_option maxHeartbeats 4000000
set_option exponentiation.threshold 3000
namespace Sv.Lw
open PySem (Str PyData)
/-- l[i] = e -/
theorem ex_setL {G : Orc} {fr : Sto} {φ : List FV} {η : Option (Nat × List D)} {o i e : C} {ρ : Env} {lv s : Sto} {k : Nat} {j : Nat} {xs : List D} {d : D} (h : ev G fr φ η e ρ lv = .ok d s) (ho : ∀ s, ev G fr φ η o ρ s = .ok (.ref (fr.length + k)) s) (hi : ∀ s, ev G fr φ η i ρ s = .ok (.int j) s)
    (hk : s[k]? = some (.lst xs)) (hj : j < xs.length) : exec G fr φ η (.asg (.sub o i) e) ρ lv = .ok ρ .nx (s.set k (.lst (xs.set j d))) := by
  have lw : listW fr s (.ref (fr.length + k)) = some (fr.length + k, xs) := by simp only [listW, look_at, hk]
  have : asgSub fr s (.ref (fr.length + k)) (.int j) d = some (s.set k (.lst (xs.set j d))) := by
    simp only [asgSub, lw]
    rw [if_pos ⟨by omega, by omega⟩]
    rw [put_at _ _ _ _ (lt_of_get hk)]
    simp
  simp only [exec, h, rs_ok, asg, ho, hi, bnd_ok, this, RS.ofT]
theorem Pen.app {fr lv : Sto} {k c : Nat} (h : Pen fr lv k c) (o : O) : Pen fr (lv ++ [o]) k c := by
  obtain ⟨cells, a, t, h1, h2, h3, h4, h5, h6⟩ := h.ex
  exact ⟨cells, a, t, by rw [List.getElem?_append_left (lt_of_get h1)]; exact h1, by rw [List.getElem?_append_left (lt_of_get h2)]; exact h2, h3, h4, h5, h6⟩
theorem ints_at {cells : List Int} {i : Int} (h0 : 0 ≤ i) (h1 : i < cells.length) : ∃ v : Int, atI (cells.map D.int) i = some (.int v) := by
  unfold atI
  rw [if_pos h0, List.getElem?_map]
  have : i.toNat < cells.length := by omega
  exact ⟨cells[i.toNat], by rw [List.getElem?_eq_getElem this]; rfl⟩
theorem law_fresh (G : Orc) (fr lv : Sto) (k c : Nat) (h : Pen fr lv k c) : ∃ (n : Int) (lv' : Sto), 0 ≤ n ∧ runFn G f_69 [.ref (fr.length + k)] [] fr lv = .ok (.int n) lv' ∧ Same k lv lv' ∧ Pen fr lv' k c := by
  obtain ⟨cells, a, t, h1, h2, h3, h4, h5, h6⟩ := h.ex
  obtain ⟨pn, hpn⟩ : ∃ pn : D, pn = .ref (fr.length + k) := ⟨_, rfl⟩
  obtain ⟨lv1, hlv1⟩ : ∃ lv1 : Sto, lv1 = lv.set k (.lst [.ref (fr.length + c), .int (a + 1), .int t]) := ⟨_, rfl⟩
  obtain ⟨lv2, hlv2⟩ : ∃ lv2 : Sto, lv2 = lv1 ++ [.lst []] := ⟨_, rfl⟩
  have k1 : lv1[k]? = some (.lst [.ref (fr.length + c), .int (a + 1), .int t]) := by rw [hlv1, List.getElem?_set_self (lt_of_get h1)]
  have c1 : lv1[c]? = some (.lst (cells.map .int)) := by rw [hlv1, List.getElem?_set_ne (fun z => h3 z.symm)]; exact h2
  have P1 : Pen fr lv1 k c := ⟨cells, a + 1, t, k1, c1, h3, by omega, h5, h6⟩
  have P2 : Pen fr lv2 k c := by rw [hlv2]; exact P1.app _
  have S2 : Same k lv lv2 := by rw [hlv2, hlv1]; exact (Same.set _).trans (Same.app _)
  have k2 : lv2[k]? = some (.lst [.ref (fr.length + c), .int (a + 1), .int t]) := by rw [hlv2, List.getElem?_append_left (lt_of_get k1)]; exact k1
  have c2 : lv2[c]? = some (.lst (cells.map .int)) := by rw [hlv2, List.getElem?_append_left (lt_of_get c1)]; exact c1
  have e1 : exec G fr [] none (.asg (.nm 1) (.idx (.var 0) (.con (.int 1)))) [some pn, none, none, none, none, none, none] lv = .ok [some pn, some (.int a), none, none, none, none, none] .nx lv := by
    refine ex_asg (ev_idx (x := pn) (ev_var rfl) ev_con ?_) (by simp)
    rw [hpn, idx_list (by rw [look_at]; exact h1)]
    rfl
  have e2 : exec G fr [] none (.asg (.sub (.var 0) (.con (.int 1))) (.bin .add (.var 1) (.con (.int 1)))) [some pn, some (.int a), none, none, none, none, none] lv = .ok [some pn, some (.int a), none, none, none, none, none] .nx lv1 := by
    rw [hlv1]
    exact ex_setL (j := 1) (xs := [.ref (fr.length + c), .int a, .int t]) (ev_addI (ev_var rfl) (ev_con (x := .int 1))) (fun s => by rw [hpn]; exact ev_var rfl) (fun s => ev_con) h1 (by simp)
  have e3 : exec G fr [] none (.asg (.nm 2) (.con (.int 0))) [some pn, some (.int a), none, none, none, none, none] lv1 = .ok [some pn, some (.int a), some (.int 0), none, none, none, none] .nx lv1 := ex_asg ev_con (by simp)
  have i0 : ∀ (x2 : Option D), ev G fr [] none (.idx (.var 0) (.con (.int 0))) [some pn, some (.int a), x2, none, none, none, none] lv2 = .ok (.ref (fr.length + c)) lv2 := fun x2 => by
    refine ev_idx (x := pn) (ev_var rfl) ev_con ?_
    rw [hpn, idx_list (by rw [look_at]; exact k2)]
    rfl
  have i01 : ev G fr [] none (.idx (.var 0) (.con (.int 0))) [some pn, some (.int a), some (.int 0), none, none, none, none] lv1 = .ok (.ref (fr.length + c)) lv1 := by
    refine ev_idx (x := pn) (ev_var rfl) ev_con ?_
    rw [hpn, idx_list (by rw [look_at]; exact k1)]
    rfl
  have ln : ∀ (x2 : Option D), ev G fr [] none (.bi .len [.idx (.var 0) (.con (.int 0))]) [some pn, some (.int a), x2, none, none, none, none] lv2 = .ok (.int cells.length) lv2 := fun x2 => by
    rw [ev_len (i0 x2)]
    have : look fr lv2 (fr.length + c) = some (.lst (cells.map .int)) := by rw [look_at]; exact c2
    simp only [lenR, insAt, this, lenD, itemsOf, listAt, Option.map_some, of_ok, List.length_map]
  have c4 : ev G fr [] none (.cmp .ne (.idx (.var 0) (.con (.int 0))) (.lst [])) [some pn, some (.int a), some (.int 0), none, none, none, none] lv1 = .ok (.bl (!(cells.map D.int).isEmpty)) lv2 := by
    rw [hlv2]
    refine ev_cmp i01 (ev_lst evs_nil (by unfold lineMax; simp)) (ne_lists _ _ _ _ _ ?_ (look_new _ _ _))
    rw [look_at, ← hlv2]
    exact c2
  have e4 : ∃ cell : Int, exec G fr [] none (.ifs (.cmp .ne (.idx (.var 0) (.con (.int 0))) (.lst [])) [.asg (.nm 2) (.idx (.idx (.var 0) (.con (.int 0))) (.bin .mod (.var 1) (.bi .len [.idx (.var 0) (.con (.int 0))])))] []) [some pn, some (.int a), some (.int 0), none, none, none, none] lv1 =
      .ok [some pn, some (.int a), some (.int cell), none, none, none, none] .nx lv2 := by
    cases hc : cells with
    | nil =>
      rw [hc] at c4
      exact ⟨0, (ex_ifF c4).trans exs_nil⟩
    | cons x r =>
      have pos : (0 : Int) < cells.length := by rw [hc]; simp
      obtain ⟨v, hv⟩ := ints_at (cells := cells) (i := a % cells.length) (Int.emod_nonneg _ (by omega)) (Int.emod_lt_of_pos _ pos)
      refine ⟨v, ?_⟩
      rw [hc] at c4
      refine (ex_ifT c4).trans ((exs_nx (ex_asg (x := .int v) (s1 := lv2) (ev_idx (i0 _) (ev_modI (ev_var rfl) (ln _) pos) ?_) (by simp))).trans exs_nil)
      rw [idx_list (by rw [look_at]; exact c2)]
      exact hv
  obtain ⟨cell, e4⟩ := e4
  have pw : ∀ x2 : Option D, ev G fr [] none (.bin .pow (.con (.int 10)) (.con (.int 18))) [some pn, some (.int a), x2, none, none, none, none] lv2 = .ok (.int (10 ^ (18 : Int).toNat)) lv2 := fun x2 => ev_powI ev_con ev_con ⟨by decide, by decide, by decide⟩
  have l5 := ev_cmp (ev_var (G := G) (fr := fr) (φ := []) (η := none) (ρ := [some pn, some (.int a), some (.int cell), none, none, none, none]) (lv := lv2) (i := 1) (x := .int a) rfl) (ln _) (lt_int fr lv2 _ _)
  have g5 := ev_cmp (ev_var (G := G) (fr := fr) (φ := []) (η := none) (ρ := [some pn, some (.int a), some (.int cell), none, none, none, none]) (lv := lv2) (i := 2) (x := .int cell) rfl) (pw _) (ge_int fr lv2 _ _)
  obtain ⟨ρ', n, hn, tl⟩ := f_tail G fr (some pn) none none none none a cell lv2
  have e0 : runFn G f_69 [pn] [] fr lv = endR (execs G fr [] none f_69.body [some pn, none, none, none, none, none, none] lv) := rfl
  have go : ∀ (m : Int) (ρ2 : Env), execs G fr [] none (f_69.body.drop 4) [some pn, some (.int a), some (.int cell), none, none, none, none] lv2 = .ok ρ2 (.rt (.int m)) lv2 → runFn G f_69 [pn] [] fr lv = .ok (.int m) lv2 := fun m ρ2 hm => by
    rw [e0]
    have : execs G fr [] none f_69.body [some pn, none, none, none, none, none, none] lv = .ok ρ2 (.rt (.int m)) lv2 := (exs_nx e1).trans ((exs_nx e2).trans ((exs_nx e3).trans ((exs_nx e4).trans hm)))
    rw [this]
    rfl
  rw [← hpn]
  have tlgo : ∀ {b : C}, ev G fr [] none b [some pn, some (.int a), some (.int cell), none, none, none, none] lv2 = .ok (.bl false) lv2 → True := fun _ => trivial
  by_cases q1 : a < (cells.length : Int)
  · rw [decide_eq_true q1] at l5
    by_cases q2 : (10 : Int) ^ (18 : Int).toNat ≤ cell
    · rw [decide_eq_true q2] at g5
      exact ⟨cell - 10 ^ (18 : Int).toNat, lv2, by omega, go _ _ (exs_rt ((ex_ifT ((ev_andT l5).trans g5)).trans (exs_rt (ex_ret (ev_subI (ev_var rfl) (pw _)))))), S2, P2⟩
    · rw [decide_eq_false q2] at g5
      exact ⟨n, lv2, hn, go _ _ ((exs_nx ((ex_ifF ((ev_andT l5).trans g5)).trans exs_nil)).trans tl), S2, P2⟩
  · rw [decide_eq_false q1] at l5
    exact ⟨n, lv2, hn, go _ _ ((exs_nx ((ex_ifF (ev_andF l5)).trans exs_nil)).trans tl), S2, P2⟩
end Sv.Lw
end -- Pl16
section -- Pl17
set_option Elab.async false
set_option linter.all false
set_option maxRecDepth 100000
set_option maxHeartbeats 4000000
set_option exponentiation.threshold 3000
namespace Sv.Lw
open PySem (Str PyData)
def HasFresh (G : Orc) : Prop := ∀ (fr lv : Sto) (k c : Nat), Pen fr lv k c → ∃ (n : Int) (lv' : Sto), 0 ≤ n ∧ G.call 69 [.ref (fr.length + k)] [] fr lv = .ok (.int n) lv' ∧ Same k lv lv' ∧ Pen fr lv' k c
/-- the pen's number set -/
theorem Pen.put {fr lv : Sto} {k c : Nat} (h : Pen fr lv k c) (n : Int) (hn : 0 ≤ n) : ∃ (x y : D) (t : Int), lv[k]? = some (.lst [x, y, .int t]) ∧ 0 ≤ t ∧ Pen fr (lv.set k (.lst [x, y, .int n])) k c := by
  obtain ⟨cells, a, t, h1, h2, h3, h4, h5, h6⟩ := h.ex
  exact ⟨_, _, t, h1, h5, ⟨cells, a, n, by rw [List.getElem?_set_self (lt_of_get h1)], by rw [List.getElem?_set_ne (fun z => h3 z.symm)]; exact h2, h3, h4, hn, h6⟩⟩
theorem law_draw (G : Orc) (hG : HasFresh G) (fr lv : Sto) (k c : Nat) (many : Int) (h : Pen fr lv k c) (hm : 0 < many) (hb : many < 2 ^ 1000) : ∃ (d : Int) (lv' : Sto), 0 ≤ d ∧ d < many ∧ runFn G f_70 [.ref (fr.length + k), .int many] [] fr lv = .ok (.int d) lv' ∧ Same k lv lv' ∧ Pen fr lv' k c := by
  obtain ⟨pn, hpn⟩ : ∃ pn : D, pn = .ref (fr.length + k) := ⟨_, rfl⟩
  have rd : ∀ {s : Sto} {x y : D} {t : Int} {x2 : Option D}, s[k]? = some (.lst [x, y, .int t]) → ev G fr [] none (.idx (.var 0) (.con (.int 2))) [some pn, some (.int many), x2] s = .ok (.int t) s := fun {s x y t x2} q => by
    refine ev_idx (x := pn) (ev_var rfl) ev_con ?_
    rw [hpn, idx_list (by rw [look_at]; exact q)]
    rfl
  -- the number that is drawn from
  have first : ∃ (lv1 : Sto), exec G fr [] none (.ifs (.cmp .lt (.idx (.var 0) (.con (.int 2))) (.var 1)) [.asg (.sub (.var 0) (.con (.int 2))) (.call 69 [.var 0])] []) [some pn, some (.int many), none] lv = .ok [some pn, some (.int many), none] .nx lv1 ∧ Same k lv lv1 ∧ Pen fr lv1 k c := by
    obtain ⟨x, y, t, g1, g2, _⟩ := h.put 0 (by decide)
    have cc := ev_cmp (rd g1 (x2 := none)) (ev_var (i := 1) (x := .int many) rfl) (lt_int fr lv _ _)
    by_cases q : t < many
    · rw [decide_eq_true q] at cc
      obtain ⟨n, lv', hn, e, S, P⟩ := hG fr lv k c h
      obtain ⟨x', y', t', g1', _, P'⟩ := P.put n hn
      refine ⟨lv'.set k (.lst [x', y', .int n]), (ex_ifT cc).trans ((exs_nx ?_).trans exs_nil), S.trans (Same.set _), P'⟩
      refine ex_setL (j := 2) (xs := [x', y', .int t']) (d := .int n) (s := lv') ?_ (fun s => by rw [hpn]; exact ev_var rfl) (fun s => ev_con) g1' (by simp)
      refine (ev_call (evs_cons (x := pn) (ev_var rfl) evs_nil)).trans ?_
      rw [hpn]
      exact e
    · rw [decide_eq_false q] at cc
      exact ⟨lv, (ex_ifF cc).trans exs_nil, .refl, h⟩
  obtain ⟨lv1, f1, S1, P1⟩ := first
  obtain ⟨x, y, t, g1, g2, _⟩ := P1.put 0 (by decide)
  obtain ⟨x', y', t', g1', _, P2⟩ := P1.put (t / many) (Int.ediv_nonneg g2 (by omega))
  rw [g1] at g1'
  cases g1'
  refine ⟨t % many, lv1.set k (.lst [x, y, .int (t / many)]), Int.emod_nonneg _ (by omega), Int.emod_lt_of_pos _ hm, ?_, S1.trans (Same.set _), P2⟩
  rw [← hpn]
  have e0 : runFn G f_70 [pn, .int many] [] fr lv = endR (execs G fr [] none f_70.body [some pn, some (.int many), none] lv) := rfl
  rw [e0]
  have : execs G fr [] none f_70.body [some pn, some (.int many), none] lv = .ok [some pn, some (.int many), some (.int (t % many))] (.rt (.int (t % many))) (lv1.set k (.lst [x, y, .int (t / many)])) := by
    refine (exs_nx f1).trans ((exs_nx (ex_asg (x := .int (t % many)) (s1 := lv1) (ev_modI (rd g1) (ev_var rfl) hm) (by simp))).trans ((exs_nx (ex_setL (j := 2) (xs := [x, y, .int t]) (d := .int (t / many)) (s := lv1) (ev_divI (rd g1) (ev_var rfl) ⟨hm, hb⟩) (fun s => by rw [hpn]; exact ev_var rfl) (fun s => ev_con) g1 (by simp))).trans (exs_rt (ex_ret (ev_var rfl)))))
  rw [this]
  rfl
end Sv.Lw
end -- Pl17
section -- Pl18
set_option Elab.async false
set_option linter.all false
set_option maxRecDepth 100000
set_option maxHeartbeats 4000000
set_option exponentiation.threshold 3000
namespace Sv.Lw
open PySem (Str PyData)
def HasDraw (G : Orc) : Prop := ∀ (fr lv : Sto) (k c : Nat) (many : Int), Pen fr lv k c → 0 < many → many < 2 ^ 1000 → ∃ (d : Int) (lv' : Sto), 0 ≤ d ∧ d < many ∧ G.call 70 [.ref (fr.length + k), .int many] [] fr lv = .ok (.int d) lv' ∧ Same k lv lv' ∧ Pen fr lv' k c
/-- a drawn pair -/
def Drawn (words : Int) (p : Int × Int) : Prop := 0 ≤ p.1 ∧ p.1 < words ∧ p.2.natAbs < 10 ^ 60
theorem Pen.other {fr lv : Sto} {k c f : Nat} {o : O} (h : Pen fr lv k c) (hk : f ≠ k) (hc : f ≠ c) : Pen fr (lv.set f o) k c := by
  obtain ⟨cells, a, t, h1, h2, h3⟩ := h.ex
  exact ⟨cells, a, t, by rw [List.getElem?_set_ne hk]; exact h1, by rw [List.getElem?_set_ne hc]; exact h2, h3⟩
theorem Pen.lt {fr lv : Sto} {k c : Nat} (h : Pen fr lv k c) : k < lv.length ∧ c < lv.length := by
  obtain ⟨cells, a, t, h1, h2, _⟩ := h.ex
  exact ⟨lt_of_get h1, lt_of_get h2⟩
def sBody : List S := [.expr (.bm .append (.var 5) [.tup [.call 70 [.var 0, .var 1], .bin .mul (.bin .sub (.call 70 [.var 0, .var 3]) (.con (.int 1))) (.var 4)]])]
/-- all but k and f is as it was -/
def Same2 (k f : Nat) (lv lv' : Sto) : Prop := lv.length ≤ lv'.length ∧ ∀ i, i < lv.length → i ≠ k → i ≠ f → lv'[i]? = lv[i]?
theorem s_turn (G : Orc) (hG : HasDraw G) (fr lv : Sto) (k c f : Nat) (words values large : Int) (mo x6 : Option D) (ws : List (Int × Int)) (h : Pen fr lv k c) (hw : 0 < words) (hw2 : words < 2 ^ 62) (hv : 0 < values) (hv2 : values ≤ 10) (hl : large.natAbs ≤ 10 ^ 58) (hk : f ≠ k) (hc : f ≠ c) (hf : lv[f]? = some (.lst (ws.map pairD))) (hn : ws.length < 900) :
    ∃ (p : Int × Int) (lv' : Sto), Drawn words p ∧ execs G fr [] none sBody [some (.ref (fr.length + k)), some (.int words), mo, some (.int values), some (.int large), some (.ref (fr.length + f)), x6] lv = .ok [some (.ref (fr.length + k)), some (.int words), mo, some (.int values), some (.int large), some (.ref (fr.length + f)), x6] .nx lv' ∧
      lv'[f]? = some (.lst ((ws ++ [p]).map pairD)) ∧ Pen fr lv' k c ∧ Same2 k f lv lv' := by
  have b62 : (2 : Int) ^ 62 < 2 ^ 1000 := by decide
  obtain ⟨d1, lv1, a1, a2, e1, S1, P1⟩ := hG fr lv k c words h hw (by omega)
  obtain ⟨d2, lv2, b1, b2, e2, S2, P2⟩ := hG fr lv1 k c values P1 hv (by have : (10 : Int) < 2 ^ 1000 := (by decide); omega)
  have S := S1.trans S2
  have fl := lt_of_get hf
  have f2 : lv2[f]? = some (.lst (ws.map pairD)) := by rw [S.2 f fl hk]; exact hf
  refine ⟨(d1, (d2 - 1) * large), lv2.set f (.lst ((ws ++ [(d1, (d2 - 1) * large)]).map pairD)), ⟨a1, a2, ?_⟩, ?_, ?_, P2.other hk hc, ?_⟩
  · show ((d2 - 1) * large).natAbs < 10 ^ 60
    rw [Int.natAbs_mul]
    have : (d2 - 1).natAbs ≤ 9 := by omega
    have : (d2 - 1).natAbs * large.natAbs ≤ 9 * 10 ^ 58 := Nat.mul_le_mul this hl
    have : 9 * 10 ^ 58 < 10 ^ 60 := by decide
    omega
  · refine (exs_nx (ex_expr (x := .non) ?_)).trans exs_nil
    have tp : ev G fr [] none (.tup [.call 70 [.var 0, .var 1], .bin .mul (.bin .sub (.call 70 [.var 0, .var 3]) (.con (.int 1))) (.var 4)]) [some (.ref (fr.length + k)), some (.int words), mo, some (.int values), some (.int large), some (.ref (fr.length + f)), x6] lv = .ok (pairD (d1, (d2 - 1) * large)) lv2 := by
      refine ev_tup (evs_cons ((ev_call (evs_cons (ev_var rfl) (evs_cons (ev_var rfl) evs_nil))).trans e1) (evs_cons (ev_mulI (ev_subI ((ev_call (evs_cons (ev_var rfl) (evs_cons (ev_var rfl) evs_nil))).trans e2) ev_con) (ev_var rfl) ?_) evs_nil)) (by unfold lineMax; simp)
      have : small (d2 - 1) = true := sm ⟨by have : -(2 : Int) ^ 64 < -1 := (by decide); omega, by have : (10 : Int) < 2 ^ 64 := (by decide); omega⟩
      rw [this, Bool.true_or]
    have l0 : look fr lv (fr.length + f) = some (.lst (ws.map pairD)) := by rw [look_at]; exact hf
    have l2 : look fr lv2 (fr.length + f) = some (.lst (ws.map pairD)) := by rw [look_at]; exact f2
    have vv : ev G fr [] none (.var 5) [some (.ref (fr.length + k)), some (.int words), mo, some (.int values), some (.int large), some (.ref (fr.length + f)), x6] lv = .ok (.ref (fr.length + f)) lv := ev_var rfl
    have hlen : (ws.map pairD).length < lineMax := by rw [List.length_map]; unfold lineMax; omega
    have pt := put_at fr lv2 f (.lst (ws.map pairD ++ [pairD (d1, (d2 - 1) * large)])) (lt_of_get f2)
    rw [ev, vv, bnd_ok]
    simp only [kindD, l0, l2, okBm, BEq.rfl, if_true, evs, tp, bnd_ok, bm, listW, hlen, pt]
    simp
  · rw [List.getElem?_set_self (lt_of_get f2)]
  · exact ⟨by simpa using S.1, fun i hi h1 h2 => by rw [List.getElem?_set_ne (fun z => h2 z.symm)]; exact S.2 i hi h1⟩
end Sv.Lw
end -- Pl18
section -- Pl19
set_option Elab.async false
set_option linter.all false
set_option maxRecDepth 100000
set_option maxHeartbeats 4000000
set_option exponentiation.threshold 3000
namespace Sv.Lw
open PySem (Str PyData)
theorem Same2.trans {k f : Nat} {a b c : Sto} (h : Same2 k f a b) (g : Same2 k f b c) : Same2 k f a c := ⟨Nat.le_trans h.1 g.1, fun i hi hk hf => (g.2 i (Nat.lt_of_lt_of_le hi h.1) hk hf).trans (h.2 i hi hk hf)⟩
theorem s_loop (G : Orc) (hG : HasDraw G) (fr : Sto) (k c f : Nat) (words values large : Int) (mo : Option D) (hw : 0 < words) (hw2 : words < 2 ^ 62) (hv : 0 < values) (hv2 : values ≤ 10) (hl : large.natAbs ≤ 10 ^ 58) (hk : f ≠ k) (hc : f ≠ c) :
    ∀ (ts : List D) (x6 : Option D) (lv : Sto) (ws : List (Int × Int)), Pen fr lv k c → lv[f]? = some (.lst (ws.map pairD)) → (∀ p ∈ ws, Drawn words p) → ws.length + ts.length < 900 →
    ∃ (us : List (Int × Int)) (lv' : Sto) (y6 : Option D), (∀ p ∈ us, Drawn words p) ∧ us.length = ws.length + ts.length ∧ loopE (fun d ρ s => match asgN ρ (.nm 6) d with
      | some ρ1 => execs G fr [] none sBody ρ1 s
      | none => .bad) (fun s => stays fr s .none) ts [some (.ref (fr.length + k)), some (.int words), mo, some (.int values), some (.int large), some (.ref (fr.length + f)), x6] lv = .ok [some (.ref (fr.length + k)), some (.int words), mo, some (.int values), some (.int large), some (.ref (fr.length + f)), y6] .nx lv' ∧
      lv'[f]? = some (.lst (us.map pairD)) ∧ Pen fr lv' k c ∧ Same2 k f lv lv'
  | [], x6, lv, ws, h, hf, hd, hn => ⟨ws, lv, x6, hd, by simp, by simp [loopE], hf, h, ⟨Nat.le_refl _, fun _ _ _ _ => rfl⟩⟩
  | t :: ts, x6, lv, ws, h, hf, hd, hn => by
    obtain ⟨p, lv1, d1, e, f1, P1, S1⟩ := s_turn G hG fr lv k c f words values large mo (some t) ws h hw hw2 hv hv2 hl hk hc hf (by simp at hn; omega)
    obtain ⟨us, lv', y6, a1, a2, a3, a4, a5, a6⟩ := s_loop G hG fr k c f words values large mo hw hw2 hv hv2 hl hk hc ts (some t) lv1 (ws ++ [p]) P1 f1 (fun q hq => by
      rcases List.mem_append.mp hq with hq | hq
      · exact hd q hq
      · have : q = p := by simpa using hq
        rw [this]
        exact d1) (by simp at hn ⊢; omega)
    refine ⟨us, lv', y6, a1, by rw [a2]; simp; omega, ?_, a4, a5, S1.trans a6⟩
    have ea : asgN [some (.ref (fr.length + k)), some (.int words), mo, some (.int values), some (.int large), some (.ref (fr.length + f)), x6] (.nm 6) t = some [some (.ref (fr.length + k)), some (.int words), mo, some (.int values), some (.int large), some (.ref (fr.length + f)), some t] := by
      unfold asgN
      rfl
    rw [loopE]
    simp only [ea]
    rw [e]
    exact a3
end Sv.Lw
end -- Pl19
section -- Pl20
set_option Elab.async false
set_option linter.all false
set_option maxRecDepth 100000
set_option maxHeartbeats 4000000
set_option exponentiation.threshold 3000
namespace Sv.Lw
open PySem (Str PyData)
def LARGE : List Int := [1, 1, 10 ^ 25, -(10 ^ 58)]
theorem law_stream (G : Orc) (hG : HasDraw G) (fr lv : Sto) (k c : Nat) (words most values : Int) (h : Pen fr lv k c) (hw : 0 < words) (hw2 : words < 2 ^ 62) (hv : 0 < values) (hv2 : values ≤ 10) (hm : 0 ≤ most) (hm2 : most ≤ 800) :
    ∃ (us : List (Int × Int)) (lv' : Sto), (∀ p ∈ us, Drawn words p) ∧ (us.length : Int) ≤ most ∧ runFn G f_88 [.ref (fr.length + k), .int words, .int most, .int values] [] fr lv = .ok (.tup (us.map pairD)) lv' ∧ Pen fr lv' k c := by
  obtain ⟨pn, hpn⟩ : ∃ pn : D, pn = .ref (fr.length + k) := ⟨_, rfl⟩
  have big : (1000 : Int) < 2 ^ 1000 := by decide
  obtain ⟨kl, cl⟩ := h.lt
  obtain ⟨lv0, hlv0⟩ : ∃ lv0 : Sto, lv0 = lv ++ [.lst (LARGE.map .int)] := ⟨_, rfl⟩
  have P0 : Pen fr lv0 k c := by rw [hlv0]; exact h.app _
  obtain ⟨d1, lv1, a1, a2, e1, S1, P1⟩ := hG fr lv0 k c 4 P0 (by decide) (by omega)
  have l0 : lv0[lv.length]? = some (.lst (LARGE.map .int)) := by rw [hlv0]; simp
  have l1 : lv1[lv.length]? = some (.lst (LARGE.map .int)) := by rw [S1.2 _ (lt_of_get l0) (by omega)]; exact l0
  obtain ⟨large, hlg, hl⟩ : ∃ large : Int, atI (LARGE.map D.int) d1 = some (.int large) ∧ large.natAbs ≤ 10 ^ 58 := by
    have : d1 = 0 ∨ d1 = 1 ∨ d1 = 2 ∨ d1 = 3 := by omega
    rcases this with rfl | rfl | rfl | rfl
    · exact ⟨1, rfl, by decide⟩
    · exact ⟨1, rfl, by decide⟩
    · exact ⟨10 ^ 25, rfl, by decide⟩
    · exact ⟨-(10 ^ 58), rfl, by decide⟩
  have s1 : exec G fr [] none (.asg (.nm 4) (.idx (.lst [.con (.int 1), .con (.int 1), .bin .pow (.con (.int 10)) (.con (.int 25)), .neg (.bin .pow (.con (.int 10)) (.con (.int 58)))]) (.call 70 [.var 0, .con (.int 4)]))) [some pn, some (.int words), some (.int most), some (.int values), none, none, none] lv =
      .ok [some pn, some (.int words), some (.int most), some (.int values), some (.int large), none, none] .nx lv1 := by
    have ll := ev_lst (G := G) (fr := fr) (φ := []) (η := none) (ρ := [some pn, some (.int words), some (.int most), some (.int values), none, none, none]) (lv := lv) (evs_cons (ev_con (x := .int 1)) (evs_cons (ev_con (x := .int 1)) (evs_cons (ev_powI (x := 10) (y := 25) ev_con ev_con (by decide)) (evs_cons (ev_neg (ev_powI (x := 10) (y := 58) ev_con ev_con (by decide))) evs_nil)))) (by unfold lineMax; simp)
    have ll : ev G fr [] none (.lst [.con (.int 1), .con (.int 1), .bin .pow (.con (.int 10)) (.con (.int 25)), .neg (.bin .pow (.con (.int 10)) (.con (.int 58)))]) [some pn, some (.int words), some (.int most), some (.int values), none, none, none] lv = .ok (.ref (fr.length + lv.length)) lv0 := by
      rw [hlv0]
      exact ll
    refine ex_asg (ev_idx ll ((ev_call (evs_cons (x := pn) (ev_var rfl) (evs_cons ev_con evs_nil))).trans (by rw [hpn]; exact e1)) ?_) (by simp)
    rw [idx_list (by rw [look_at]; exact l1)]
    exact hlg
  obtain ⟨lv2, hlv2⟩ : ∃ lv2 : Sto, lv2 = lv1 ++ [.lst []] := ⟨_, rfl⟩
  have P2 : Pen fr lv2 k c := by rw [hlv2]; exact P1.app _
  obtain ⟨k1, c1⟩ := P1.lt
  have s2 : exec G fr [] none (.asg (.nm 5) (.lst [])) [some pn, some (.int words), some (.int most), some (.int values), some (.int large), none, none] lv1 = .ok [some pn, some (.int words), some (.int most), some (.int values), some (.int large), some (.ref (fr.length + lv1.length)), none] .nx lv2 := by
    rw [hlv2]
    exact ex_asg (ev_lst evs_nil (by unfold lineMax; simp)) (by simp)
  obtain ⟨d2, lv3, b1, b2, e3, S3, P3⟩ := hG fr lv2 k c (most + 1) P2 (by omega) (by omega)
  have f2 : lv2[lv1.length]? = some (.lst []) := by rw [hlv2]; simp
  have f3 : lv3[lv1.length]? = some (.lst (([] : List (Int × Int)).map pairD)) := by rw [S3.2 _ (lt_of_get f2) (by omega)]; exact f2
  have rg : rngD 0 d2 = some (rngL 0 d2.toNat) := by
    unfold rngD
    have : (2 : Int) ^ 62 > 1000 := by decide
    rw [if_pos ⟨by omega, by omega, by omega, by omega, by unfold lineMax; omega⟩]
    simp
  have lr : (rngL 0 d2.toNat).length = d2.toNat := by unfold rngL; simp
  obtain ⟨us, lv4, y6, q1, q2, q3, q4, q5, q6⟩ := s_loop G hG fr k c lv1.length words values large (some (.int most)) hw hw2 hv hv2 hl (by omega) (by omega) (rngL 0 d2.toNat) none lv3 [] P3 f3 (by simp) (by rw [lr]; simp; omega)
  have s3 : exec G fr [] none (.loop (.nm 6) (.rng1 (.call 70 [.var 0, .bin .add (.var 2) (.con (.int 1))])) sBody) [some pn, some (.int words), some (.int most), some (.int values), some (.int large), some (.ref (fr.length + lv1.length)), none] lv2 =
      .ok [some pn, some (.int words), some (.int most), some (.int values), some (.int large), some (.ref (fr.length + lv1.length)), y6] .nx lv4 := by
    have cc : ev G fr [] none (.call 70 [.var 0, .bin .add (.var 2) (.con (.int 1))]) [some pn, some (.int words), some (.int most), some (.int values), some (.int large), some (.ref (fr.length + lv1.length)), none] lv2 = .ok (.int d2) lv3 :=
      (ev_call (evs_cons (x := pn) (ev_var rfl) (evs_cons (ev_addI (ev_var rfl) (ev_con (x := .int 1))) evs_nil))).trans (by rw [hpn]; exact e3)
    have it : evI G fr [] none (.rng1 (.call 70 [.var 0, .bin .add (.var 2) (.con (.int 1))])) [some pn, some (.int words), some (.int most), some (.int values), some (.int large), some (.ref (fr.length + lv1.length)), none] lv2 = .ok (rngL 0 d2.toNat, .none) lv3 := by
      simp only [evI, cc, bnd_ok, rngI, rg]
    simp only [exec, it, rs_ok, stays, Bool.not_true, Bool.false_eq_true, if_false, lockS]
    rw [hpn]
    refine (congrArg (RS.mapS _ _) q3).trans ?_
    simp only [RS.mapS, unlockS]
  refine ⟨us, lv4, q1, by rw [q2, lr]; simp; omega, ?_, q5⟩
  rw [← hpn]
  have e0 : runFn G f_88 [pn, .int words, .int most, .int values] [] fr lv = endR (execs G fr [] none f_88.body [some pn, some (.int words), some (.int most), some (.int values), none, none, none] lv) := rfl
  rw [e0]
  have : execs G fr [] none f_88.body [some pn, some (.int words), some (.int most), some (.int values), none, none, none] lv = .ok [some pn, some (.int words), some (.int most), some (.int values), some (.int large), some (.ref (fr.length + lv1.length)), y6] (.rt (.tup (us.map pairD))) lv4 := by
    refine (exs_nx s1).trans ((exs_nx s2).trans ((exs_nx s3).trans (exs_rt (ex_ret ?_))))
    rw [ev_bi1 (by decide) (ev_var (x := .ref (fr.length + lv1.length)) rfl)]
    have : look fr lv4 (fr.length + lv1.length) = some (.lst (us.map pairD)) := by rw [look_at]; exact q4
    simp only [bi, itemsOf, listAt, this, newT]
    rw [if_pos (by rw [List.length_map, q2, lr]; unfold lineMax; simp; omega)]
  rw [this]
  rfl
end Sv.Lw
end -- Pl20
section -- Pl21
set_option Elab.async false
set_option linter.all false
set_option maxRecDepth 100000
set_option maxHeartbeats 4000000
set_option exponentiation.threshold 3000
namespace Sv.Lw
open PySem (Str PyData)
theorem split_sep (sep : Nat) (r : List Nat) : splitL sep (sep :: r) = [] :: splitL sep r := by
  rw [splitL, if_pos rfl]
theorem split_cons (sep c : Nat) (r w : List Nat) (ws : List (List Nat)) (h : c ≠ sep) (e : splitL sep r = w :: ws) : splitL sep (c :: r) = (c :: w) :: ws := by
  rw [splitL, if_neg h, e]
theorem split_no (sep : Nat) : ∀ {w : List Nat}, sep ∉ w → splitL sep w = [w]
  | [], _ => rfl
  | c :: r, h => by
    simp only [List.mem_cons, not_or] at h
    have ih := split_no sep h.2
    exact split_cons _ _ _ _ _ (fun z => h.1 z.symm) ih
theorem split_app (sep : Nat) (b : List Nat) : ∀ {w : List Nat}, sep ∉ w → splitL sep (w ++ [sep] ++ b) = w :: splitL sep b
  | [], _ => by
    exact split_sep sep b
  | c :: r, h => by
    simp only [List.mem_cons, not_or] at h
    have ih := split_app sep b h.2
    exact split_cons _ _ _ _ _ (fun z => h.1 z.symm) ih
theorem split_join (sep : Nat) : ∀ {ws : List (List Nat)}, ws ≠ [] → (∀ w ∈ ws, sep ∉ w) → splitL sep (joinB sep ws) = ws
  | [], h, _ => absurd rfl h
  | [w], _, h => split_no sep (h w (by simp))
  | w :: v :: ws, _, h => by
    have ih := split_join sep (ws := v :: ws) (by simp) fun u hu => h u (List.mem_cons_of_mem _ hu)
    show splitL sep (w ++ [sep] ++ joinB sep (v :: ws)) = _
    rw [split_app sep _ (h w (by simp)), ih]
/-! ### figures -/
theorem digs_all (n : Nat) : (digs n).all isDig = true := by
  unfold digs
  rw [List.all_map, List.all_eq_true]
  intro c hc
  have h := Nat.isDigit_of_mem_toDigits (by decide) (by decide) hc
  unfold Char.isDigit at h
  simp only [Bool.and_eq_true, decide_eq_true_eq] at h
  show isDig c.toNat = true
  unfold isDig
  simp only [Bool.and_eq_true, decide_eq_true_eq]
  exact ⟨h.1, h.2⟩
theorem digs_back (n : Nat) : valN (digs n) = n := PySem.W.KIN.val_back n
end Sv.Lw
end -- Pl21
section -- Pl22
set_option Elab.async false
set_option linter.all false
set_option maxRecDepth 100000
set_option maxHeartbeats 4000000
set_option exponentiation.threshold 3000
namespace Sv.Lw
open PySem (Str PyData)
theorem digs_len {n k : Nat} (hk : 1 ≤ k) (h : n < 10 ^ k) : (digs n).length ≤ k := by
  unfold digs
  rw [List.length_map]
  exact PyProof.Rows.digits10_le hk h
theorem digs_num {n : Nat} (h : n < 10 ^ 60) : isNum 60 (digs n) = true := by
  have ha := digs_all n
  have hl := digs_len (by decide) h
  have hv := digs_back n
  unfold isNum
  cases e : digs n with
  | nil =>
    have : 1 ≤ (digs n).length := by
      unfold digs
      rw [List.length_map]
      exact PyProof.Rows.tDigits_len_ge 10 n
    rw [e] at this
    simp at this
  | cons c r =>
    rw [e] at ha hl hv
    rw [ha, decide_eq_true hl]
    by_cases hc : c = 48
    · subst hc
      cases r with
      | nil => rfl
      | cons d r =>
        exfalso
        simp only [List.all_cons, Bool.and_eq_true] at ha
        have h1 : valN (48 :: d :: r) = valN (d :: r) := rfl
        have h2 := valN_lt (cs := d :: r) (by simp only [List.all_cons, Bool.and_eq_true]; exact ha.2)
        rw [h1] at hv
        have h3 : (digs n).length ≤ (d :: r).length := digs_len (by simp) (by rw [← hv]; exact h2)
        rw [e] at h3
        simp at h3
        omega
    · simp [hc]
theorem no_sep {s : Nat} (hs : s = 32 ∨ s = 58) (i : Int) : s ∉ strL i := by
  intro h
  unfold strL at h
  have h2 : s ∈ digs i.natAbs := by
    split at h
    · simp only [List.cons_append, List.nil_append, List.mem_cons] at h
      rcases h with h | h
      · omega
      · exact h
    · simpa using h
  have := List.all_eq_true.mp (digs_all i.natAbs) s h2
  unfold isDig at this
  simp only [Bool.and_eq_true, decide_eq_true_eq] at this
  omega
/-- the text of a drawn pair is read back -/
theorem pair_good {many : Int} (hm : many ≤ 10) {p : Int × Int} (h : Drawn many p) : good1 many (pairL p) = true ∧ numsOf (pairL p) = p := by
  obtain ⟨w, v⟩ := p
  obtain ⟨h1, h2, h3⟩ := h
  have h1 : 0 ≤ w := h1
  have h2 : w < many := h2
  have h3 : v.natAbs < 10 ^ 60 := h3
  have sp : splitL 58 (pairL (w, v)) = [strL w, strL v] := by
    unfold pairL
    rw [split_app 58 _ (no_sep (.inr rfl) w), split_no 58 (no_sep (.inr rfl) v)]
  have hw : strL w = digs w.natAbs := by unfold strL; rw [if_neg (by omega)]; rfl
  have w10 : w.natAbs < 10 ^ 1 := by omega
  have n60 : isNum 60 (digs w.natAbs) = true := digs_num (by omega)
  have n1 : isNum 1 (digs w.natAbs) = true := isNum_mono n60 (digs_len (by decide) w10)
  have vn : isNum 60 (digs v.natAbs) = true := digs_num h3
  have hd : ∀ {n : Nat}, isNum 60 (digs n) = true → (digs n).take 1 ≠ [45] := fun {n} hn z => by
    have ha := digs_all n
    cases e : digs n with
    | nil => rw [e] at z; cases z
    | cons c r =>
      rw [e] at z ha
      simp at z
      subst z
      simp [isDig] at ha
  unfold good1 numsOf
  rw [sp]
  show (decide (([strL w, strL v] : List (List Nat)).length = 2) && (isNum 1 (strL w) && decide ((valN (strL w) : Int) < many)) && goodV (strL v)) = true ∧ ((valN (strL w) : Int), if (strL v).take 1 = [45] then -(valN ((strL v).drop 1) : Int) else (valN (strL v) : Int)) = (w, v)
  rw [hw, n1, digs_back, decide_eq_true (show ((w.natAbs : Nat) : Int) < many by omega)]
  have hwi : ((w.natAbs : Nat) : Int) = w := by omega
  rw [hwi]
  unfold goodV
  by_cases hv : v < 0
  · have ev : strL v = 45 :: digs v.natAbs := by unfold strL; rw [if_pos hv]; rfl
    have t1 : (strL v).take 1 = [45] := by rw [ev]; rfl
    have t2 : (strL v).drop 1 = digs v.natAbs := by rw [ev]; rfl
    rw [if_pos t1, if_pos t1, t2, vn, digs_back]
    have : digs v.natAbs ≠ [48] := fun z => by
      have := digs_back v.natAbs
      rw [z] at this
      have : (0 : Nat) = v.natAbs := this
      omega
    rw [decide_eq_false this]
    exact ⟨rfl, by congr 1; omega⟩
  · have ev : strL v = digs v.natAbs := by unfold strL; rw [if_neg hv]; rfl
    rw [ev, if_neg (hd vn), if_neg (hd vn), vn, digs_back]
    exact ⟨rfl, by congr 1; omega⟩
end Sv.Lw
end -- Pl22
section -- Pl23
set_option Elab.async false
set_option linter.all false
set_option maxRecDepth 100000
set_option maxHeartbeats 4000000
set_option exponentiation.threshold 3000
namespace Sv.Lw
open PySem (Str PyData)
theorem pair_no32 (p : Int × Int) : 32 ∉ pairL p := by
  unfold pairL
  intro h
  simp only [List.mem_append, List.mem_cons, List.not_mem_nil, or_false] at h
  rcases h with (h | h) | h
  · exact no_sep (.inl rfl) _ h
  · omega
  · exact no_sep (.inl rfl) _ h
theorem split_text {us : List (Int × Int)} (h : us ≠ []) : splitL 32 (textL us) = us.map pairL := by
  unfold textL
  rw [if_neg h, joinL_B]
  exact split_join 32 (fun z => h (List.map_eq_nil_iff.mp z)) fun w hw => by
    obtain ⟨p, _, rfl⟩ := List.mem_map.mp hw
    exact pair_no32 p
theorem all_pairs {many : Int} (hm : many ≤ 10) : ∀ {us : List (Int × Int)}, (∀ p ∈ us, Drawn many p) → (us.map pairL).all (good1 many) = true ∧ (us.map pairL).map numsOf = us
  | [], _ => ⟨rfl, rfl⟩
  | p :: us, h => by
    obtain ⟨a, b⟩ := pair_good hm (h p (by simp))
    obtain ⟨c, d⟩ := all_pairs hm (us := us) fun q hq => h q (by simp [hq])
    exact ⟨by simp only [List.map_cons, List.all_cons, a, c, Bool.and_self], by simp only [List.map_cons, b, d]⟩
/-- parse of a drawn stream's text -/
theorem parse_back {many : Int} (hm : many ≤ 10) {us : List (Int × Int)} (h : ∀ p ∈ us, Drawn many p) (lv : Sto) : parseR (textL us) many lv = .ok (.tup (us.map pairD)) lv := by
  rw [parse_good hm]
  by_cases e : us = []
  · subst e
    have : goodT (textL []) many = true := rfl
    rw [if_pos this]
    rfl
  · obtain ⟨a, b⟩ := all_pairs hm h
    have sp := split_text e
    have ne : textL us ≠ [45] := fun z => by
      have q := a
      rw [← sp, z] at q
      have : (splitL 32 [45]).all (good1 many) = good1 many [45] := by
        rw [split_no 32 (by decide)]
        simp
      rw [this] at q
      have : good1 many [45] = false := by
        unfold good1
        rw [split_no 58 (by decide)]
        rfl
      rw [this] at q
      cases q
    have g : goodT (textL us) many = true := by
      unfold goodT
      rw [sp, a, Bool.or_true]
    rw [if_pos g, if_neg ne, sp, b]
end Sv.Lw
end -- Pl23
section -- Pl24
set_option Elab.async false
set_option linter.all false
set_option maxRecDepth 100000
set_option maxHeartbeats 4000000
set_option exponentiation.threshold 3000
namespace Sv.Lw
open PySem (Str PyData)
theorem drawn_len {many : Int} (hm : many ≤ 10) {p : Int × Int} (h : Drawn many p) : (pairL p).length ≤ 63 := by
  obtain ⟨w, v⟩ := p
  obtain ⟨h1, h2, h3⟩ := h
  have h1 : 0 ≤ w := h1
  have h2 : w < many := h2
  have h3 : v.natAbs < 10 ^ 60 := h3
  have a : (digs w.natAbs).length ≤ 1 := digs_len (by decide) (by omega)
  have b : (digs v.natAbs).length ≤ 60 := digs_len (by decide) h3
  have e1 : strL w = digs w.natAbs := by unfold strL; rw [if_neg (by omega)]; rfl
  have e2 : (strL v).length ≤ 61 := by
    unfold strL
    split <;> simp <;> omega
  unfold pairL
  rw [e1]
  simp only [List.length_append, List.length_cons, List.length_nil]
  omega
theorem joinB_len (sep m : Nat) : ∀ {ws : List (List Nat)}, (∀ w ∈ ws, w.length ≤ m) → (joinB sep ws).length ≤ ws.length * (m + 1)
  | [], _ => by simp [joinB]
  | [w], h => by
    have := h w (by simp)
    show w.length ≤ _
    simp
    omega
  | w :: v :: ws, h => by
    have ih := joinB_len sep m (ws := v :: ws) fun u hu => h u (List.mem_cons_of_mem _ hu)
    have := h w (by simp)
    show (w ++ [sep] ++ joinB sep (v :: ws)).length ≤ _
    simp only [List.length_append, List.length_cons, List.length_nil] at ih ⊢
    rw [Nat.add_mul (ws.length + 1) 1]
    omega
theorem text_len {many : Int} (hm : many ≤ 10) {us : List (Int × Int)} (h : ∀ p ∈ us, Drawn many p) (hn : us.length ≤ 225) : (textL us).length ≤ 14400 := by
  unfold textL
  split
  · simp
  · rw [joinL_B]
    have := joinB_len 32 63 (ws := us.map pairL) fun w hw => by
      obtain ⟨p, hp, rfl⟩ := List.mem_map.mp hw
      exact drawn_len hm (h p hp)
    rw [List.length_map] at this
    omega
end Sv.Lw
end -- Pl24
section -- Pl25
set_option Elab.async false
set_option linter.all false
set_option maxRecDepth 100000
set_option maxHeartbeats 4000000
set_option exponentiation.threshold 3000
namespace Sv.Lw
open PySem (Str PyData)
abbrev Gd (d : Nat) : Orc := Sv.run F [7] (fun _ => ⟨#[]⟩) 100 d
theorem g_num (d : Nat) : HasNum (Gd (d + 1)) := fun cs m fr lv hl => num_in (Gd d) fr lv cs m hl
theorem g_val (d : Nat) : HasVal (Gd (d + 2)) := fun cs fr lv hl => val_in (Gd (d + 1)) (g_num d) fr lv cs hl
theorem g_isn (d : Nat) : HasIsn (Gd (d + 1)) := fun cs m fr lv hl => is_number (Gd d) fr lv cs m hl
theorem g_parse (d : Nat) : HasParse (Gd (d + 3)) := fun cs many fr lv hl => parse (Gd (d + 2)) (g_num (d + 1)) (g_val d) fr lv cs many hl
theorem g_text (d : Nat) : HasText (Gd (d + 1)) := fun ws fr lv hs hn => law_text (Gd d) fr lv ws hs hn
theorem g_fresh (d : Nat) : HasFresh (Gd (d + 1)) := fun fr lv k c h => law_fresh (Gd d) fr lv k c h
theorem g_draw (d : Nat) : HasDraw (Gd (d + 2)) := fun fr lv k c many h hm hb => law_draw (Gd (d + 1)) (g_fresh d) fr lv k c many h hm hb
end Sv.Lw
end -- Pl25
section -- Pl26
set_option Elab.async false
set_option linter.all false
set_option maxRecDepth 100000
set_option maxHeartbeats 4000000
set_option exponentiation.threshold 3000
namespace Sv.Lw
open PySem (Str PyData)
theorem g_format (d : Nat) (fr lv : Sto) (ws : List (Int × Int)) (hs : ∀ p ∈ ws, Small p) (hn : ws.length ≤ 900) : (Gd (d + 1)).call 180 [.tup (ws.map pairD)] [] fr lv = .ok (.str (Tx (textL ws))) lv := format_stream (Gd d) fr lv ws hs hn
theorem g_good (d : Nat) (fr lv : Sto) (cs : List Nat) (many : Int) (hl : cs.length ≤ 30000) : (Gd (d + 2)).call 185 [.str (Tx cs), .int many] [] fr lv = .ok (.bl (goodT cs many)) lv := good (Gd (d + 1)) (g_isn d) fr lv cs many hl
theorem g_exs : ∀ d, (Gd d).exs.contains 7 = true
  | 0 => rfl
  | _ + 1 => rfl
theorem g_raised (d : Nat) (fr lv : Sto) (cs : List Nat) (many : Int) (hm : many ≤ 10) (hl : cs.length ≤ 30000) (hn : (splitL 32 cs).length ≤ 900) : (Gd (d + 4)).call 177 [.str (Tx cs), .int many] [] fr lv = .ok (raisedD cs many) lv := raised (Gd (d + 3)) (g_parse d) (g_text (d + 2)) (g_exs _) fr lv cs many hm hl hn
theorem g_pen (d : Nat) (fr lv : Sto) (ns : List Int) (l : Nat) (hl : look fr lv l = some (.lst (ns.map .int))) (hn : ns.length ≤ 63) : ∃ lv', (Gd (d + 1)).call 68 [.ref l] [] fr lv = .ok (.ref (fr.length + (lv.length + 2))) lv' ∧ Pen fr lv' (lv.length + 2) (lv.length + 1) := law_pen (Gd d) fr lv ns l hl hn
theorem g_stream (d : Nat) (fr lv : Sto) (k c : Nat) (words most values : Int) (h : Pen fr lv k c) (hw : 0 < words) (hw2 : words < 2 ^ 62) (hv : 0 < values) (hv2 : values ≤ 10) (hm : 0 ≤ most) (hm2 : most ≤ 800) :
    ∃ (us : List (Int × Int)) (lv' : Sto), (∀ p ∈ us, Drawn words p) ∧ (us.length : Int) ≤ most ∧ (Gd (d + 3)).call 88 [.ref (fr.length + k), .int words, .int most, .int values] [] fr lv = .ok (.tup (us.map pairD)) lv' ∧ Pen fr lv' k c := law_stream (Gd (d + 2)) (g_draw d) fr lv k c words most values h hw hw2 hv hv2 hm hm2
end Sv.Lw
end -- Pl26
section -- Rel
set_option Elab.async false
set_option linter.all false
set_option maxRecDepth 100000
set_option maxHeartbeats 2000000
/-! # How the interpreter's states lie in the model's heap -/
namespace Sv
open PySem PySem.Spec PyProof.Rows L2

/-- where the text's things lie -/
structure Zx where
  K : PySem.W.Frag
  w : World
  fnA : Nat → Addr
  clA : Nat → Addr
  exA : Nat → Addr
  atN : Nat → Str
  /-- the fields of an own error -/
  exF : Nat → List Str
  /-- the own classes -/
  cs : List Nat
  ats : List Nat
  /-- what is known of a made def where it is called: the state, the frames; its number, where it is, what it holds -/
  cloS : Shared → Hp → List PySem.Env → Nat → Addr → List V → Prop

mutual
/-- d lies in V's v -/
def Rp (Z : Zx) (μ : Nat → Addr) (n : Nat) (H : Hp) : D → V → Prop
  | .non, v => v = .non
  | .bl b, v => v = .bl b
  | .int i, v => v = .int i
  | .str s, v => v = .str s
  | .tup xs, v => ∃ a vs, v = .ref a ∧ SqT Z.K H a vs ∧ Rps Z μ n H xs vs
  | .ref l, v => l < n ∧ v = .ref (μ l)
def Rps (Z : Zx) (μ : Nat → Addr) (n : Nat) (H : Hp) : List D → List V → Prop
  | [], vs => vs = []
  | d :: ds, vs => ∃ v r, vs = v :: r ∧ Rp Z μ n H d v ∧ Rps Z μ n H ds r
end

mutual
def hashK (w : World) : D → Int
  | .int i => hashInt i
  | .str s => hashStr w s
  | .tup xs => reduceHash (Builtin.Tuple.tupleHashOf (hashKs w xs))
  | _ => 0
def hashKs (w : World) : List D → List Int
  | [] => []
  | x :: xs => hashK w x :: hashKs w xs
end
/-- a dict object of these entries -/
def dictO (es : Array DictEntry) (a : Addr) : HO := .ext fun h => ∃ ep, h.get? a = some ({ cls := .type "dict", data := .dict es ep } : Obj)
/-- an entry -/
def EnR (Z : Zx) (μ : Nat → Addr) (n : Nat) (H : Hp) (p : D × D) (e : DictEntry) : Prop :=
  e.hash = hashK Z.w p.1 ∧ D.key keyDepth p.1 = true ∧ (∃ v, RelV v e.key ∧ Rp Z μ n H p.1 v) ∧ ∃ v, RelV v e.val ∧ Rp Z μ n H p.2 v
def ObjR (Z : Zx) (μ : Nat → Addr) (n : Nat) (H : Hp) (wr : Bool) (a : Addr) : O → Prop
  | .lst xs => ∃ vs, Rps Z μ n H xs vs ∧ (if wr = true then H a = some (.lst vs) else Rd H a (.lst vs))
  | .dct kvs lk => (a == sysModules) = false ∧ kvs.length ≤ sizeLine ∧ (kvs.map (·.1)).Nodup ∧ ∃ es : List DictEntry, Paired (EnR Z μ n H) kvs es ∧
      (if wr = true ∧ lk = false then H a = some (dictO es.toArray a) else Rd H a (dictO es.toArray a))
  | .ins c fs => ∃ dx vs, H a = some (.ins (Z.clA c) dx vs) ∧ c ∈ Z.cs ∧ Paired (fun p q => (p.1 ∈ Z.ats ∧ q.1 = Z.atN p.1) ∧ Rp Z μ n H p.2 q.2) fs vs
structure Rel (Z : Zx) (μ : Nat → Addr) (H : Hp) (fr lv : Sto) : Prop where
  inj : ∀ i j, i < fr.length + lv.length → j < fr.length + lv.length → μ i = μ j → i = j
  obj : ∀ l o, look fr lv l = some o → ObjR Z μ (fr.length + lv.length) H (decide (fr.length ≤ l)) (μ l) o
/-- what stays from one state to a later one -/
structure Grow (f : Nat) (μ : Nat → Addr) (n : Nat) (H : Hp) (μ' : Nat → Addr) (n' : Nat) (H' : Hp) : Prop where
  le : n ≤ n'
  mu : ∀ l, l < n → μ' l = μ l
  tups : ∀ b xs, H b = some (.tup xs) → H' b = some (.tup xs)
  frzs : ∀ b o u, H b = some (.frz o u) → H' b = some (.frz o u)
  xds : ∀ b u, H b = some (.xd u) → H' b = some (.xd u)
  /-- the frozen part of the store is not touched -/
  old : ∀ l, l < f → ∀ u, H (μ l) = some u → H' (μ l) = some u

section
variable {f : Nat} {Z : Zx} {μ μ' μ'' : Nat → Addr} {n n' n'' : Nat} {H H' H'' : Hp}
theorem Grow.refl : Grow f μ n H μ n H := ⟨Nat.le_refl _, fun _ _ => rfl, fun _ _ h => h, fun _ _ _ h => h, fun _ _ h => h, fun _ _ _ h => h⟩
theorem Grow.trans (hf : f ≤ n) (g : Grow f μ n H μ' n' H') (g' : Grow f μ' n' H' μ'' n'' H'') : Grow f μ n H μ'' n'' H'' :=
  ⟨Nat.le_trans g.le g'.le, fun l h => (g'.mu l (Nat.lt_of_lt_of_le h g.le)).trans (g.mu l h), fun b xs h => g'.tups b xs (g.tups b xs h), fun b o u h => g'.frzs b o u (g.frzs b o u h), fun b u h => g'.xds b u (g.xds b u h),
    fun l h u e => by
      have e2 := g.mu l (Nat.lt_of_lt_of_le h hf)
      have e3 := g'.old l h u (by rw [e2]; exact g.old l h u e)
      rw [e2] at e3
      exact e3⟩
theorem Grow.sqt (g : Grow f μ n H μ' n' H') {a : Addr} {vs : List V} (h : SqT Z.K H a vs) : SqT Z.K H' a vs := by
  rcases h with (h | ⟨o, h⟩) | h
  · exact .inl (.inl (g.tups _ _ h))
  · exact .inl (.inr ⟨o, g.frzs _ _ _ h⟩)
  · exact .inr h
mutual
theorem Rp.grow (g : Grow f μ n H μ' n' H') : ∀ (d : D) (v : V), Rp Z μ n H d v → Rp Z μ' n' H' d v
  | .non, _, h => by simpa only [Rp] using h
  | .bl _, _, h => by simpa only [Rp] using h
  | .int _, _, h => by simpa only [Rp] using h
  | .str _, _, h => by simpa only [Rp] using h
  | .tup xs, v, h => by
    simp only [Rp] at h ⊢
    obtain ⟨a, vs, rfl, h1, h2⟩ := h
    exact ⟨a, vs, rfl, g.sqt h1, Rps.grow g xs vs h2⟩
  | .ref l, v, h => by
    simp only [Rp] at h ⊢
    exact ⟨Nat.lt_of_lt_of_le h.1 g.le, by rw [g.mu l h.1]; exact h.2⟩
theorem Rps.grow (g : Grow f μ n H μ' n' H') : ∀ (ds : List D) (vs : List V), Rps Z μ n H ds vs → Rps Z μ' n' H' ds vs
  | [], _, h => by simpa only [Rps] using h
  | d :: ds, vs, h => by
    simp only [Rps] at h ⊢
    obtain ⟨v, r, rfl, h1, h2⟩ := h
    exact ⟨v, r, rfl, Rp.grow g d v h1, Rps.grow g ds r h2⟩
end
theorem EnR.grow (g : Grow f μ n H μ' n' H') {p : D × D} {e : DictEntry} (h : EnR Z μ n H p e) : EnR Z μ' n' H' p e := by
  obtain ⟨h1, h2, ⟨v, h3, h4⟩, ⟨u, h5, h6⟩⟩ := h
  exact ⟨h1, h2, ⟨v, h3, Rp.grow g _ _ h4⟩, ⟨u, h5, Rp.grow g _ _ h6⟩⟩

theorem Rps.length : ∀ {ds : List D} {vs : List V}, Rps Z μ n H ds vs → ds.length = vs.length
  | [], _, h => by simp only [Rps] at h; rw [h]; rfl
  | d :: ds, vs, h => by
    simp only [Rps] at h
    obtain ⟨v, r, rfl, _, h2⟩ := h
    simp only [List.length_cons, Rps.length h2]
theorem Rps.get : ∀ {ds : List D} {vs : List V} {i : Nat} {d : D}, Rps Z μ n H ds vs → ds[i]? = some d → ∃ v, vs[i]? = some v ∧ Rp Z μ n H d v
  | [], _, _, _, _, e => by simp at e
  | d :: ds, vs, i, x, h, e => by
    simp only [Rps] at h
    obtain ⟨v, r, rfl, h1, h2⟩ := h
    cases i with
    | zero =>
      simp only [List.getElem?_cons_zero, Option.some.injEq] at e ⊢
      subst e
      exact ⟨v, rfl, h1⟩
    | succ i =>
      simp only [List.getElem?_cons_succ] at e ⊢
      exact Rps.get h2 e
theorem Rps.app : ∀ {ds es : List D} {vs us : List V}, Rps Z μ n H ds vs → Rps Z μ n H es us → Rps Z μ n H (ds ++ es) (vs ++ us)
  | [], _, _, _, h, h' => by simp only [Rps] at h; subst h; exact h'
  | d :: ds, es, vs, us, h, h' => by
    simp only [Rps] at h
    obtain ⟨v, r, rfl, h1, h2⟩ := h
    simp only [List.cons_append, Rps]
    exact ⟨v, r ++ us, rfl, h1, Rps.app h2 h'⟩
theorem Rps.one {d : D} {v : V} (h : Rp Z μ n H d v) : Rps Z μ n H [d] [v] := by
  simp only [Rps]
  exact ⟨v, [], rfl, h, rfl⟩
theorem Rps.take : ∀ {ds : List D} {vs : List V} (k : Nat), Rps Z μ n H ds vs → Rps Z μ n H (ds.take k) (vs.take k)
  | [], _, k, h => by simp only [Rps] at h; subst h; simp [Rps]
  | d :: ds, vs, 0, h => by simp [Rps]
  | d :: ds, vs, k + 1, h => by
    simp only [Rps] at h
    obtain ⟨v, r, rfl, h1, h2⟩ := h
    simp only [List.take_succ_cons, Rps]
    exact ⟨v, _, rfl, h1, Rps.take k h2⟩
theorem Rps.drop : ∀ {ds : List D} {vs : List V} (k : Nat), Rps Z μ n H ds vs → Rps Z μ n H (ds.drop k) (vs.drop k)
  | [], _, k, h => by simp only [Rps] at h; subst h; simp [Rps]
  | d :: ds, vs, 0, h => h
  | d :: ds, vs, k + 1, h => by
    simp only [Rps] at h
    obtain ⟨v, r, rfl, h1, h2⟩ := h
    simp only [List.drop_succ_cons]
    exact Rps.drop k h2
theorem Rps.set {d : D} {v : V} (hd : Rp Z μ n H d v) : ∀ {ds : List D} {vs : List V} (k : Nat), Rps Z μ n H ds vs → Rps Z μ n H (ds.set k d) (vs.set k v)
  | [], _, k, h => by simp only [Rps] at h; subst h; simp [Rps]
  | x :: ds, vs, 0, h => by
    simp only [Rps] at h
    obtain ⟨u, r, rfl, h1, h2⟩ := h
    simp only [List.set_cons_zero, Rps]
    exact ⟨v, r, rfl, hd, h2⟩
  | x :: ds, vs, k + 1, h => by
    simp only [Rps] at h
    obtain ⟨u, r, rfl, h1, h2⟩ := h
    simp only [List.set_cons_succ, Rps]
    exact ⟨u, _, rfl, h1, Rps.set hd k h2⟩
theorem Rps.rev : ∀ {ds : List D} {vs : List V}, Rps Z μ n H ds vs → Rps Z μ n H ds.reverse vs.reverse
  | [], _, h => by simp only [Rps] at h; subst h; simp [Rps]
  | d :: ds, vs, h => by
    simp only [Rps] at h
    obtain ⟨v, r, rfl, h1, h2⟩ := h
    simp only [List.reverse_cons]
    exact Rps.app (Rps.rev h2) (.one h1)
theorem Rps.ex : ∀ {vs : List V} {ds : List D}, (∀ d ∈ ds, ∃ v, Rp Z μ n H d v) → ∃ vs, Rps Z μ n H ds vs
  | _, [], _ => ⟨[], by simp [Rps]⟩
  | vs, d :: ds, h => by
    obtain ⟨v, h1⟩ := h d List.mem_cons_self
    obtain ⟨r, h2⟩ := Rps.ex (vs := vs) (ds := ds) fun x hx => h x (List.mem_cons_of_mem _ hx)
    exact ⟨v :: r, by simp only [Rps]; exact ⟨v, r, rfl, h1, h2⟩⟩

theorem dictO_ne_tup {es : Array DictEntry} {a : Addr} {xs : List V} : dictO es a ≠ .tup xs := fun z => by unfold dictO at z; cases z
theorem dictO_ne_frz {es : Array DictEntry} {a : Addr} {o : Obj} {u : HO} : dictO es a ≠ .frz o u := fun z => by unfold dictO at z; cases z
theorem dictO_ne_lst {es : Array DictEntry} {a : Addr} {xs : List V} : dictO es a ≠ .lst xs := fun z => by unfold dictO at z; cases z

/-- an object that is told elsewhere is not a tuple, nor frozen, where it may be written -/
theorem Rel.at {fr lv : Sto} (r : Rel Z μ H fr lv) {l : Nat} {o : O} (h : look fr lv l = some o) : ObjR Z μ (fr.length + lv.length) H (decide (fr.length ≤ l)) (μ l) o := r.obj l o h
theorem look_lt {fr lv : Sto} {l : Nat} {o : O} (h : look fr lv l = some o) : l < fr.length + lv.length := by
  unfold look at h
  have := (List.getElem?_eq_some_iff.mp h).1
  simpa using this
theorem look_some {fr lv : Sto} {l : Nat} (h : l < fr.length + lv.length) : ∃ o, look fr lv l = some o := by
  unfold look
  exact ⟨_, List.getElem?_eq_getElem (by simpa using h)⟩
theorem look_app {fr lv more : Sto} {l : Nat} {o : O} (h : look fr lv l = some o) : look fr (lv ++ more) l = some o := by
  have hl := look_lt h
  unfold look at h ⊢
  rw [← List.append_assoc, List.getElem?_append_left (by simpa using hl)]
  exact h
theorem Grow.same (e : ∀ b o, H b = some o → H' b = some o) : Grow f μ n H μ n H' := ⟨Nat.le_refl _, fun _ _ => rfl, fun _ _ h => e _ _ h, fun _ _ _ h => e _ _ h, fun _ _ h => e _ _ h, fun _ _ _ h => e _ _ h⟩
theorem Rd.same (e : ∀ b o, H b = some o → H' b = some o) {a : Addr} {u : HO} (h : Rd H a u) : Rd H' a u := by
  rcases h with h | ⟨o, h⟩
  · exact .inl (e _ _ h)
  · exact .inr ⟨o, e _ _ h⟩
theorem pairedG {α β : Type} {F G : α → β → Prop} (f : ∀ a b, F a b → G a b) {l₁ : List α} {l₂ : List β} (h : Paired F l₁ l₂) : Paired G l₁ l₂ := L2.Paired.mapP h f
/-- an object's lie in a later heap that has its own address as before -/
theorem ObjR.grow (g : Grow f μ n H μ' n' H') {wr : Bool} {a : Addr} (e : ∀ u, H a = some u → H' a = some u) : ∀ {o : O}, ObjR Z μ n H wr a o → ObjR Z μ' n' H' wr a o
  | .lst xs, h => by
    obtain ⟨vs, h1, h2⟩ := h
    refine ⟨vs, Rps.grow g _ _ h1, ?_⟩
    cases wr with
    | true => exact e _ h2
    | false =>
      rcases h2 with h2 | ⟨o, h2⟩
      · exact .inl (e _ h2)
      · exact .inr ⟨o, e _ h2⟩
  | .dct kvs lk, h => by
    obtain ⟨h1, h2, h3, es, h4, h5⟩ := h
    refine ⟨h1, h2, h3, es, pairedG (fun _ _ q => q.grow g) h4, ?_⟩
    split
    · rename_i c
      rw [if_pos c] at h5
      exact e _ h5
    · rename_i c
      rw [if_neg c] at h5
      rcases h5 with h5 | ⟨o, h5⟩
      · exact .inl (e _ h5)
      · exact .inr ⟨o, e _ h5⟩
  | .ins c fs, h => by
    obtain ⟨dx, vs, h1, hc, h2⟩ := h
    exact ⟨dx, vs, e _ h1, hc, pairedG (fun _ _ q => ⟨q.1, Rp.grow g _ _ q.2⟩) h2⟩
theorem Rel.same {fr lv : Sto} (e : ∀ b o, H b = some o → H' b = some o) (r : Rel Z μ H fr lv) : Rel Z μ H' fr lv :=
  ⟨r.inj, fun l o h => (r.obj l o h).grow (Grow.same (f := 0) e) fun u q => e _ _ q⟩
/-- the tracked object of a told place -/
theorem ObjR.there {wr : Bool} {a : Addr} {o : O} (h : ObjR Z μ n H wr a o) : ∃ u, H a = some u := by
  cases o with
  | lst xs =>
    obtain ⟨vs, _, h2⟩ := h
    cases wr with
    | true => exact ⟨_, h2⟩
    | false =>
      rcases h2 with h2 | ⟨o, h2⟩
      · exact ⟨_, h2⟩
      · exact ⟨_, h2⟩
  | dct kvs lk =>
    obtain ⟨_, _, _, es, _, h5⟩ := h
    split at h5
    · exact ⟨_, h5⟩
    · rcases h5 with h5 | ⟨o, h5⟩
      · exact ⟨_, h5⟩
      · exact ⟨_, h5⟩
  | ins c fs =>
    obtain ⟨dx, vs, h1, _⟩ := h
    exact ⟨_, h1⟩
theorem Rel.there {fr lv : Sto} (r : Rel Z μ H fr lv) {l : Nat} (h : l < fr.length + lv.length) : ∃ u, H (μ l) = some u := by
  obtain ⟨o, e⟩ := look_some h
  exact (r.obj l o e).there
/-- the next place -/
def bump (μ : Nat → Addr) (n : Nat) (p : Addr) : Nat → Addr := fun l => if l = n then p else μ l
theorem bump_self {p : Addr} : bump μ n p n = p := if_pos rfl
theorem bump_lt {p : Addr} {l : Nat} (h : l < n) : bump μ n p l = μ l := if_neg (by omega)
theorem upd_new {p : Addr} {o : HO} (hp : H p = none) : ∀ b u, H b = some u → upd H p o b = some u := fun b u e => by rw [upd_ne (ne_of_none e hp)]; exact e
theorem Grow.bump {p : Addr} {o : HO} (hp : H p = none) : Grow f μ n H (bump μ n p) (n + 1) (upd H p o) :=
  ⟨Nat.le_succ _, fun l h => bump_lt h, fun _ _ h => upd_new hp _ _ h, fun _ _ _ h => upd_new hp _ _ h, fun _ _ h => upd_new hp _ _ h, fun _ _ _ h => upd_new hp _ _ h⟩
theorem Rel.new {fr lv : Sto} (r : Rel Z μ H fr lv) {p : Addr} {o : O} {ho : HO} (hp : H p = none)
    (h : ObjR Z (bump μ (fr.length + lv.length) p) (fr.length + lv.length + 1) (upd H p ho) true p o) : Rel Z (bump μ (fr.length + lv.length) p) (upd H p ho) fr (lv ++ [o]) := by
  have hlen : fr.length + (lv ++ [o]).length = fr.length + lv.length + 1 := by simp; omega
  have ne : ∀ l, l < fr.length + lv.length → μ l ≠ p := fun l hl z => by
    obtain ⟨u, e⟩ := r.there hl
    rw [z, hp] at e
    cases e
  refine ⟨fun i j hi hj e => ?_, fun l u e => ?_⟩
  · rw [hlen] at hi hj
    by_cases h1 : i = fr.length + lv.length <;> by_cases h2 : j = fr.length + lv.length
    · omega
    · have hj' : j < fr.length + lv.length := by omega
      rw [h1, bump_self, bump_lt hj'] at e
      exact absurd e.symm (ne j hj')
    · have hi' : i < fr.length + lv.length := by omega
      rw [h2, bump_self, bump_lt hi'] at e
      exact absurd e (ne i hi')
    · have hi' : i < fr.length + lv.length := by omega
      have hj' : j < fr.length + lv.length := by omega
      rw [bump_lt hi', bump_lt hj'] at e
      exact r.inj i j hi' hj' e
  · rw [hlen]
    have hl := look_lt e
    rw [hlen] at hl
    by_cases h1 : l = fr.length + lv.length
    · subst h1
      have e2 : u = o := by
        unfold look at e
        rw [← List.append_assoc, List.getElem?_append_right (by simp)] at e
        simpa using e.symm
      subst e2
      rw [bump_self]
      have : decide (fr.length ≤ fr.length + lv.length) = true := by simp
      rw [this]
      exact h
    · have hl' : l < fr.length + lv.length := by omega
      have e2 : look fr lv l = some u := by
        unfold look at e ⊢
        rw [← List.append_assoc, List.getElem?_append_left (by simpa using hl')] at e
        exact e
      rw [bump_lt hl']
      exact (r.obj l u e2).grow (Grow.bump (f := 0) hp) fun v q => upd_new hp _ _ q
/-- a living object is written -/
theorem Rel.put {fr lv lv' : Sto} (r : Rel Z μ H fr lv) {l : Nat} {o' : O} {ho : HO} (hput : put fr lv l o' = some lv') (hu : ∀ u, H (μ l) = some u → (∀ xs, u ≠ .tup xs) ∧ (∀ a b, u ≠ .frz a b) ∧ ∀ xs, u ≠ .xd xs)
    (h : ObjR Z μ (fr.length + lv.length) (upd H (μ l) ho) true (μ l) o') :
    Rel Z μ (upd H (μ l) ho) fr lv' ∧ Grow fr.length μ (fr.length + lv.length) H μ (fr.length + lv'.length) (upd H (μ l) ho) ∧ lv'.length = lv.length := by
  unfold Sv.put at hput
  split at hput
  · rename_i hl
    simp only [Option.some.injEq] at hput
    subst hput
    have hlen : (lv.set (l - fr.length) o').length = lv.length := by simp
    have g : Grow fr.length μ (fr.length + lv.length) H μ (fr.length + lv.length) (upd H (μ l) ho) :=
      ⟨Nat.le_refl _, fun _ _ => rfl, fun b xs e => by rw [upd_ne (fun z => by subst z; exact (hu _ e).1 xs rfl)]; exact e, fun b x u e => by rw [upd_ne (fun z => by subst z; exact (hu _ e).2.1 x u rfl)]; exact e,
        fun b x e => by rw [upd_ne (fun z => by subst z; exact (hu _ e).2.2 x rfl)]; exact e,
        fun k hk u e => by
          rw [upd_ne (fun z => by
            have := r.inj k l (by omega) hl.2 z
            omega)]
          exact e⟩
    refine ⟨⟨fun i j hi hj e => r.inj i j (by simpa using hi) (by simpa using hj) e, fun k u e => ?_⟩, by rw [hlen]; exact g, hlen⟩
    rw [hlen]
    by_cases hk : k = l
    · subst hk
      have e2 : u = o' := by
        unfold look at e
        rw [List.getElem?_append_right hl.1, List.getElem?_set_self (by omega)] at e
        simpa using e.symm
      subst e2
      have : decide (fr.length ≤ k) = true := by simpa using hl.1
      rw [this]
      exact h
    · have e2 : look fr lv k = some u := by
        unfold look at e ⊢
        by_cases hkf : k < fr.length
        · rw [List.getElem?_append_left hkf] at e ⊢
          exact e
        · rw [List.getElem?_append_right (by omega)] at e ⊢
          rw [List.getElem?_set_ne (by omega)] at e
          exact e
      have hkl := look_lt e2
      exact (r.obj k u e2).grow g fun v q => by
        rw [upd_ne (fun z => hk (r.inj k l hkl hl.2 z))]
        exact q
  · cases hput
/-- the living part forgotten: what was there before it lies as it did -/
theorem Rel.old {fr lv : Sto} (r0 : Rel Z μ H fr lv) (g : Grow (fr.length + lv.length) μ (fr.length + lv.length) H μ' n' H') : Rel Z μ H' fr lv := by
  have g2 : Grow 0 μ (fr.length + lv.length) H μ (fr.length + lv.length) H' := ⟨Nat.le_refl _, fun _ _ => rfl, g.tups, g.frzs, g.xds, fun l h => absurd h (Nat.not_lt_zero l)⟩
  exact ⟨r0.inj, fun l o e => (r0.obj l o e).grow g2 fun u q => g.old l (look_lt e) u q⟩
end
end Sv
end -- Rel
section -- Sem1
set_option Elab.async false
set_option linter.all false
set_option maxRecDepth 100000
set_option maxHeartbeats 2000000
/-! # What the interpreter answers holds of the text: expressions -/
namespace Sv
open PySem PySem.Spec PyProof.Rows L2

/-- a frame: where the text's things lie; a def-parameter's first place; the wish about errors; the error in hand: its number, its dict -/
structure Fm where
  z : Zx
  np : Nat
  /-- how many parameters are defs -/
  nf : Nat
  W : WX
  xh : Option (Nat × Addr)
  /-- not within an except suite -/
  calm : Bool
  /-- the made defs that the frame was handed -/
  clo : Nat → Addr → List V → Prop
  /-- the error in hand: its slot, where it is -/
  xs : Option (Nat × Addr)
/-- a def as a value -/
def FnT (clo : Nat → Addr → List V → Prop) (Z : Zx) (μ : Nat → Addr) (n : Nat) (H : Hp) (g : FV) (v : V) : Prop :=
  (g.2 = [] ∧ v = .ref (Z.fnA g.1)) ∨ ∃ a vs, v = .ref a ∧ clo g.1 a vs ∧ Rps Z μ n H g.2 vs
def CloOk (Z : Zx) : Prop := True
/-- an error's dict -/
def ErrR (Z : Zx) (c : Nat) (μ : Nat → Addr) (n : Nat) (H : Hp) (v : List D) (d : Addr) : Prop := ∃ fs : List (Str × V), H d = some (.xd fs) ∧ fs.map (·.1) = Z.exF c ∧ Rps Z μ n H v (fs.map (·.2))
structure Here (F : Fm) (σ : L2.St) (H : Hp) (μ : Nat → Addr) (ρ : Env) (φ : List FV) (η : Option (Nat × List D)) (fr lv : Sto) : Prop where
  rel : Rel F.z μ H fr lv
  len : σ.length = ρ.length
  env : ∀ (i : Nat) (d : D), ρ[i]? = some (some d) → ∃ v, σ[i]? = some (some v) ∧ Rp F.z μ (fr.length + lv.length) H d v
  fns : ∀ (j : Nat) (g : FV), φ[j]? = some g → ∃ v, σ[F.np + j]? = some (some v) ∧ FnT F.clo F.z μ (fr.length + lv.length) H g v
  exn : ∀ (c : Nat) (v : List D), η = some (c, v) → ∃ d, F.xh = some (c, d) ∧ ErrR F.z c μ (fr.length + lv.length) H v d
  calm : F.calm = false → η ≠ none
  nf : φ.length = F.nf
  xsl : ∀ (i : Nat) (a : Addr), F.xs = some (i, a) → σ[i]? = some (some (.ref a))
section
variable {F : Fm} {σ : L2.St} {H H' : Hp} {μ μ' : Nat → Addr} {ρ : Env} {φ : List FV} {η : Option (Nat × List D)} {fr lv lv' : Sto}
theorem FnT.grow {Z : Zx} {clo : Nat → Addr → List V → Prop} (ck : CloOk Z) {f n n' : Nat} (g : Grow f μ n H μ' n' H') {x : FV} {v : V} (h : FnT clo Z μ n H x v) : FnT clo Z μ' n' H' x v := by
  rcases h with h | ⟨a, vs, h1, h2, h3⟩
  · exact .inl h
  · exact .inr ⟨a, vs, h1, h2, Rps.grow g _ _ h3⟩
theorem ErrR.grow {Z : Zx} {c f n n' : Nat} (g : Grow f μ n H μ' n' H') {v : List D} {d : Addr} (h : ErrR Z c μ n H v d) : ErrR Z c μ' n' H' v d := by
  obtain ⟨fs, h1, h2, h3⟩ := h
  exact ⟨fs, g.xds _ _ h1, h2, Rps.grow g _ _ h3⟩
/-- the frame in a later state -/
theorem Here.grow (ck : CloOk F.z) (h : Here F σ H μ ρ φ η fr lv) (r : Rel F.z μ' H' fr lv') (g : Grow fr.length μ (fr.length + lv.length) H μ' (fr.length + lv'.length) H') : Here F σ H' μ' ρ φ η fr lv' := by
  refine ⟨r, h.len, fun i d e => ?_, fun j x e => ?_, fun c v e => ?_, h.calm, h.nf, h.xsl⟩
  · obtain ⟨v, h1, h2⟩ := h.env i d e
    exact ⟨v, h1, Rp.grow g _ _ h2⟩
  · obtain ⟨v, h1, h2⟩ := h.fns j x e
    exact ⟨v, h1, h2.grow ck g⟩
  · obtain ⟨d, h1, h2⟩ := h.exn c v e
    exact ⟨d, h1, h2.grow g⟩
end

/-- what an answer of the interpreter leaves to be shown. Y: how its value lies -/
def Go {α β : Type} (F : Fm) (Y : (Nat → Addr) → Nat → Hp → α → β → Prop) (σ : L2.St) (H : Hp) (μ : Nat → Addr) (fr lv : Sto) (x : R α) (Q : β → Hp → Prop) : Prop := match x with
  | .ok a lv' => ∀ b H' μ', Rel F.z μ' H' fr lv' → Grow fr.length μ (fr.length + lv.length) H μ' (fr.length + lv'.length) H' → Y μ' (fr.length + lv'.length) H' a b → Q b H'
  | .ex c v lv' => ∀ d H' μ', Rel F.z μ' H' fr lv' → Grow fr.length μ (fr.length + lv.length) H μ' (fr.length + lv'.length) H' → ErrR F.z c μ' (fr.length + lv'.length) H' v d → F.W (.ref (F.z.exA c)) (some d) σ H'
  | .bad => False
abbrev YV (F : Fm) : (Nat → Addr) → Nat → Hp → D → V → Prop := Rp F.z
abbrev YL (F : Fm) : (Nat → Addr) → Nat → Hp → List D → List V → Prop := Rps F.z
section
variable {α α' β β' : Type} {F : Fm} {Y : (Nat → Addr) → Nat → Hp → α → β → Prop} {Y' : (Nat → Addr) → Nat → Hp → α' → β' → Prop} {σ : L2.St} {H H' : Hp} {μ μ' : Nat → Addr} {fr lv lv' : Sto} {Q : β → Hp → Prop} {Q' : β' → Hp → Prop}
/-- from a later state back to an earlier one -/
theorem Go.back {x : R α} (g : Grow fr.length μ (fr.length + lv.length) H μ' (fr.length + lv'.length) H') (h : Go F Y σ H μ fr lv x Q) : Go F Y σ H' μ' fr lv' x Q := by
  cases x with
  | ok a s => exact fun b H2 μ2 r g2 y => h b H2 μ2 r (Grow.trans (Nat.le_add_right _ _) g g2) y
  | ex c v s => exact fun d H2 μ2 r g2 y => h d H2 μ2 r (Grow.trans (Nat.le_add_right _ _) g g2) y
  | bad => exact h
theorem Go.bind {x : R α} {f : α → Sto → R α'} (h : Go F Y' σ H μ fr lv (x.bind f) Q') :
    Go F Y σ H μ fr lv x fun b H1 => ∃ a s μ1, x = .ok a s ∧ Rel F.z μ1 H1 fr s ∧ Grow fr.length μ (fr.length + lv.length) H μ1 (fr.length + s.length) H1 ∧ Y μ1 (fr.length + s.length) H1 a b ∧ Go F Y' σ H1 μ1 fr s (f a s) Q' := by
  cases x with
  | ok a s => exact fun b H1 μ1 r g y => ⟨a, s, μ1, rfl, r, g, y, Go.back g h⟩
  | ex c v s => exact h
  | bad => exact h
theorem Go.imp {x : R α} {Q2 : β → Hp → Prop} (h : Go F Y σ H μ fr lv x Q) (i : ∀ b H', Q b H' → Q2 b H') : Go F Y σ H μ fr lv x Q2 := by
  cases x with
  | ok a s => exact fun b H1 μ1 r g y => i _ _ (h b H1 μ1 r g y)
  | ex c v s => exact h
  | bad => exact h
/-- an answer without a change -/
theorem Go.now {a : α} {b : β} (h : Go F Y σ H μ fr lv (.ok a lv) Q) (r : Rel F.z μ H fr lv) (y : Y μ (fr.length + lv.length) H a b) : Q b H := h b H μ r .refl y
end

/-- the interpreter's readings -/
abbrev Mt (α : Type) := Env → List FV → Option (Nat × List D) → Sto → Sto → R α
def TEo (F : Fm) (m : Mt D) : TE := fun σ H Q => ∃ μ ρ φ η fr lv, Here F σ H μ ρ φ η fr lv ∧ Go F (YV F) σ H μ fr lv (m ρ φ η fr lv) Q
def TAo (F : Fm) (m : Mt (List D)) : TA := fun σ H Q => ∃ μ ρ φ η fr lv, Here F σ H μ ρ φ η fr lv ∧ Go F (YL F) σ H μ fr lv (m ρ φ η fr lv) Q
def TTo (F : Fm) (m : Mt Bool) : TT := fun σ H Q => ∃ μ ρ φ η fr lv, Here F σ H μ ρ φ η fr lv ∧ Go F (fun _ _ _ a b => a = b) σ H μ fr lv (m ρ φ η fr lv) Q

theorem _root_.L2.PE.imp {X : Cx} {e : Expr} {t t' : TE} (h : PE X e t) (i : ∀ σ H Q, t' σ H Q → t σ H Q) : PE X e t' := ⟨fun pins s σ H Q I q => h.run pins s σ H Q I (i _ _ _ q)⟩
theorem _root_.L2.PT.imp {X : Cx} {e : Expr} {t t' : TT} (h : PT X e t) (i : ∀ σ H Q, t' σ H Q → t σ H Q) : PT X e t' := ⟨fun pins s σ H Q I q => h.run pins s σ H Q I (i _ _ _ q)⟩
theorem _root_.L2.PA.imp {X : Cx} {e : List Expr} {t t' : TA} (h : PA X e t) (i : ∀ σ H Q, t' σ H Q → t σ H Q) : PA X e t' := ⟨fun pos pins s σ H Q I q => h.run pos pins s σ H Q I (i _ _ _ q)⟩
theorem _root_.L2.PS.imp {X : Cx} {e : Stmt} {t t' : TS} (h : PS X e t) (i : ∀ D σ H, t' D σ H → t D σ H) : PS X e t' := ⟨fun pins s σ H D I q => h.run pins s σ H D I (i _ _ _ q)⟩

/-- what is asked of a context -/
structure Fits (X : Cx) (F : Fm) : Prop where
  K : X.K = F.z.K
  w : X.w = F.z.w
  nd : X.N.Nodup
  clo : CloOk F.z
  cl : ∀ (H : Hp) (s : Shared) (id : Nat) (a : Addr) (vs : List V), Un X.fs X.ex X.H_0 H X.s_0.heap s.heap → F.clo id a vs → F.z.cloS s H X.stack id a vs
  un : X.A.units + 200 < cLine
  gd : X.A.guards = some []
  tk : Takes X F.W
  calm : X.calm = F.calm

section
variable {X : Cx} {F : Fm}
/-! ### constants, names -/
def mCon (d : D) : Mt D := fun _ _ _ _ lv => .ok d lv
def mVar (i : Nat) : Mt D := fun ρ _ _ _ lv => .of (varD ρ i) lv
/-- a scalar -/
theorem pd_sc {e : Expr} {d : D} {v : V} (h : PE X e (tC v)) (hv : ∀ μ n H, Rp F.z μ n H d v) : PE X e (TEo F (mCon d)) :=
  h.imp fun σ H Q ⟨μ, ρ, φ, η, fr, lv, he, g⟩ => g.now he.rel (hv _ _ _)
theorem pd_var {e : Expr} {i : Nat} (h : PE X e (tVar i)) : PE X e (TEo F (mVar i)) := h.imp fun σ H Q ⟨μ, ρ, φ, η, fr, lv, he, g⟩ => by
  unfold mVar varD at g
  cases q : ρ[i]? with
  | none => rw [q] at g; exact g.elim
  | some o =>
    cases o with
    | none => rw [q] at g; exact g.elim
    | some d =>
      rw [q] at g
      obtain ⟨v, h1, h2⟩ := he.env i d q
      exact ⟨v, h1, Go.now (F := F) (a := d) g he.rel h2⟩
/-! ### two operands -/
/-- two in a row, then an operation on values -/
def mBin (ma mb : Mt D) (p : Sto → Sto → D → D → R D) : Mt D := fun ρ φ η fr lv => (ma ρ φ η fr lv).bind fun x s => (mb ρ φ η fr s).bind fun y s => p fr s x y
/-- an operation of values as a reading -/
def rP (F : Fm) (p : Sto → Sto → D → D → R D) : R2 := fun x y H Q => ∃ σ μ fr lv dx dy, Rel F.z μ H fr lv ∧ Rp F.z μ (fr.length + lv.length) H dx x ∧ Rp F.z μ (fr.length + lv.length) H dy y ∧ Go F (YV F) σ H μ fr lv (p fr lv dx dy) Q
theorem bin_of (ft : Fits X F) {ma mb : Mt D} {p : Sto → Sto → D → D → R D} {σ : L2.St} {H : Hp} {Q : VK} (h : TEo F (mBin ma mb p) σ H Q) : TEo F ma σ H fun x H1 => TEo F mb σ H1 fun y H2 => rP F p x y H2 Q := by
  obtain ⟨μ, ρ, φ, η, fr, lv, he, g⟩ := h
  refine ⟨μ, ρ, φ, η, fr, lv, he, (Go.bind (Y := YV F) g).imp fun x H1 ⟨dx, s1, μ1, e1, r1, g1, y1, k1⟩ => ?_⟩
  refine ⟨μ1, ρ, φ, η, fr, s1, he.grow ft.clo r1 g1, (Go.bind (Y := YV F) k1).imp fun y H2 ⟨dy, s2, μ2, e2, r2, g2, y2, k2⟩ => ?_⟩
  exact ⟨σ, μ2, fr, s2, dx, dy, r2, Rp.grow g2 _ _ y1, y2, k2⟩
theorem pd_op (ft : Fits X F) {a b : Expr} {ma mb : Mt D} {op : Operator} {p : Sto → Sto → D → D → R D} {pos : Pos} (ho : OpR X (binaryOp op) (rP F p)) (ha : PE X a (TEo F ma)) (hb : PE X b (TEo F mb)) : PE X (.BinOp a op b pos) (TEo F (mBin ma mb p)) :=
  (pe_op ho ha hb).imp fun σ H Q h => bin_of ft h
theorem pd_cmp (ft : Fits X F) {a b : Expr} {ma mb : Mt D} {op : CmpOp} {p : Sto → Sto → D → D → R D} {pos : Pos} (ho : OpR X (compareOp op) (rP F p)) (hm : behindInMarks op b = false) (ha : PE X a (TEo F ma)) (hb : PE X b (TEo F mb)) : PE X (.Compare a [op] [b] pos) (TEo F (mBin ma mb p)) :=
  (pe_cmpR ho ha hb hm).imp fun σ H Q h => bin_of ft h
end
end Sv
end -- Sem1
section -- Sem2
set_option Elab.async false
set_option linter.all false
set_option maxRecDepth 100000
set_option maxHeartbeats 2000000
/-! # Operators -/
namespace Sv
open PySem PySem.Spec PyProof.Rows L2

/-! ### data read as a whole -/
section
variable {Z : Zx} {μ : Nat → Addr} {H : Hp} {fr lv : Sto}
theorem mapM_cons_some {α β : Type} {f : α → Option β} {a : α} {l : List α} {r : List β} (h : (a :: l).mapM f = some r) : ∃ b t, f a = some b ∧ l.mapM f = some t ∧ r = b :: t := by
  rw [List.mapM_cons] at h
  cases e : f a with
  | none => rw [e] at h; cases h
  | some b =>
    rw [e] at h
    cases e2 : l.mapM f with
    | none =>
      have : (List.mapM f l >>= fun bs => (pure (b :: bs) : Option (List β))) = some r := h
      rw [e2] at this
      cases this
    | some t =>
      have : (List.mapM f l >>= fun bs => (pure (b :: bs) : Option (List β))) = some r := h
      rw [e2] at this
      exact ⟨b, t, rfl, rfl, (Option.some.inj this).symm⟩
theorem mapM_nil_some {α β : Type} {f : α → Option β} {r : List β} (h : ([] : List α).mapM f = some r) : r = [] := by
  rw [List.mapM_nil] at h
  exact (Option.some.inj h).symm
theorem pd_all {n : Nat} (ih : ∀ (d : D) (v : V) (x : PyData), Rp Z μ (fr.length + lv.length) H d v → pd fr lv n d = some x → Dp Z.K H v x ∧ x.canLay0 = true ∧ x.depth ≤ n) :
    ∀ (ds : List D) (vs : List V) (xs : List PyData), Rps Z μ (fr.length + lv.length) H ds vs → ds.mapM (pd fr lv n) = some xs → DpAll Z.K H vs xs ∧ PyData.canLayAll0 xs = true ∧ PyData.depthAll xs ≤ n
  | [], vs, xs, h, e => by
    simp only [Rps] at h
    subst h
    rw [mapM_nil_some e]
    exact ⟨.nil, rfl, Nat.zero_le _⟩
  | d :: ds, vs, xs, h, e => by
    simp only [Rps] at h
    obtain ⟨v, r, rfl, h1, h2⟩ := h
    obtain ⟨b, t, e1, e2, rfl⟩ := mapM_cons_some e
    obtain ⟨k1, k2, k3⟩ := ih d v b h1 e1
    obtain ⟨m1, m2, m3⟩ := pd_all ih ds r t h2 e2
    refine ⟨.cons k1 m1, ?_, ?_⟩
    · simp only [PyData.canLayAll0, k2, m2, Bool.and_self]
    · simp only [PyData.depthAll]
      omega
theorem ObjR.lst {n : Nat} {wr : Bool} {a : Addr} {xs : List D} (h : ObjR Z μ n H wr a (.lst xs)) : ∃ vs, Rps Z μ n H xs vs ∧ Rd H a (.lst vs) := by
  obtain ⟨vs, h1, h2⟩ := h
  refine ⟨vs, h1, ?_⟩
  cases wr with
  | true => exact .inl h2
  | false => exact h2
theorem pd_dp (r : Rel Z μ H fr lv) : ∀ (n : Nat) (d : D) (v : V) (x : PyData), Rp Z μ (fr.length + lv.length) H d v → pd fr lv n d = some x → Dp Z.K H v x ∧ x.canLay0 = true ∧ x.depth ≤ n
  | 0, d, v, x, h, e => by
    cases d with
    | non => simp only [Rp] at h; simp only [pd, Option.some.injEq] at e; subst h; subst e; exact ⟨.non, rfl, Nat.zero_le _⟩
    | bl b => simp only [Rp] at h; simp only [pd, Option.some.injEq] at e; subst h; subst e; exact ⟨.bl b, rfl, Nat.zero_le _⟩
    | int i => simp only [Rp] at h; simp only [pd, Option.some.injEq] at e; subst h; subst e; exact ⟨.int i, rfl, Nat.zero_le _⟩
    | str s =>
      simp only [Rp] at h
      simp only [pd] at e
      split at e
      · rename_i c
        simp only [Option.some.injEq] at e
        subst h; subst e
        exact ⟨.str s, c, Nat.zero_le _⟩
      · cases e
    | tup xs => simp [pd] at e
    | ref l => simp [pd] at e
  | n + 1, d, v, x, h, e => by
    cases d with
    | non => simp only [Rp] at h; simp only [pd, Option.some.injEq] at e; subst h; subst e; exact ⟨.non, rfl, Nat.zero_le _⟩
    | bl b => simp only [Rp] at h; simp only [pd, Option.some.injEq] at e; subst h; subst e; exact ⟨.bl b, rfl, Nat.zero_le _⟩
    | int i => simp only [Rp] at h; simp only [pd, Option.some.injEq] at e; subst h; subst e; exact ⟨.int i, rfl, Nat.zero_le _⟩
    | str s =>
      simp only [Rp] at h
      simp only [pd] at e
      split at e
      · rename_i c
        simp only [Option.some.injEq] at e
        subst h; subst e
        exact ⟨.str s, c, Nat.zero_le _⟩
      · cases e
    | tup xs =>
      simp only [Rp] at h
      obtain ⟨a, vs, rfl, h1, h2⟩ := h
      simp only [pd] at e
      obtain ⟨ys, e1, rfl⟩ := Option.map_eq_some_iff.mp e
      obtain ⟨k1, k2, k3⟩ := pd_all (fun d v x => pd_dp r n d v x) xs vs ys h2 e1
      exact ⟨.tup h1 k1, k2, by simp only [PyData.depth]; omega⟩
    | ref l =>
      simp only [Rp] at h
      obtain ⟨hl, rfl⟩ := h
      simp only [pd] at e
      cases q : look fr lv l with
      | none => rw [q] at e; cases e
      | some o =>
        rw [q] at e
        cases o with
        | lst xs =>
          obtain ⟨ys, e1, rfl⟩ := Option.map_eq_some_iff.mp e
          obtain ⟨vs, h2, h1⟩ := (r.obj l _ q).lst
          obtain ⟨k1, k2, k3⟩ := pd_all (fun d v x => pd_dp r n d v x) xs vs ys h2 e1
          exact ⟨.lst (.inl h1) k1, k2, by simp only [PyData.depth]; omega⟩
        | dct _ _ => cases e
        | ins _ _ => cases e
theorem pd_shaped (r : Rel Z μ H fr lv) {d : D} {v : V} {x : PyData} (h : Rp Z μ (fr.length + lv.length) H d v) (e : pd fr lv pdDepth d = some x) : Dp Z.K H v x ∧ SeqAt.shaped x = true := by
  obtain ⟨k1, k2, k3⟩ := pd_dp r _ d v x h e
  have : x.depth ≤ 64 := Nat.le_trans k3 (by decide)
  exact ⟨k1, by unfold SeqAt.shaped; rw [k2, decide_eq_true this]; rfl⟩
end

/-! ### OpR of the operators -/
section
variable {X : Cx} {F : Fm}
theorem lineMax_le : lineMax ≤ sizeLine := by rw [sizeLine_eq]; decide
theorem rp_sc {Z : Zx} {μ : Nat → Addr} {n : Nat} {H : Hp} : (∀ b, Rp Z μ n H (.bl b) (.bl b)) ∧ (∀ i, Rp Z μ n H (.int i) (.int i)) ∧ (∀ s, Rp Z μ n H (.str s) (.str s)) ∧ Rp Z μ n H .non .non := by simp [Rp]
/-- a new tuple is laid -/
theorem Go.tup {σ : L2.St} {H : Hp} {μ : Nat → Addr} {fr lv : Sto} {xs : List D} {vs : List V} {Q : VK} (g : Go F (YV F) σ H μ fr lv (.ok (.tup xs) lv) Q) (r : Rel F.z μ H fr lv) (h : Rps F.z μ (fr.length + lv.length) H xs vs) {p : Addr} (hp : H p = none) :
    Q (.ref p) (upd H p (.tup vs)) := by
  have e := upd_new (o := .tup vs) hp
  refine g _ _ μ (r.same e) (.same e) ?_
  show Rp F.z μ (fr.length + lv.length) _ (.tup xs) _
  simp only [Rp]
  exact ⟨p, vs, rfl, .inl (.inl upd_same), Rps.grow (Grow.same (f := 0) e) _ _ h⟩
/-- a new list is laid -/
theorem Go.lst {σ : L2.St} {H : Hp} {μ : Nat → Addr} {fr lv : Sto} {xs : List D} {vs : List V} {Q : VK} (g : Go F (YV F) σ H μ fr lv (new fr lv (.lst xs)) Q) (r : Rel F.z μ H fr lv) (h : Rps F.z μ (fr.length + lv.length) H xs vs) {p : Addr} (hp : H p = none) :
    Q (.ref p) (upd H p (.lst vs)) := by
  have hlen : fr.length + (lv ++ [O.lst xs]).length = fr.length + lv.length + 1 := by simp; omega
  have gb : Grow fr.length μ (fr.length + lv.length) H (bump μ (fr.length + lv.length) p) (fr.length + lv.length + 1) (upd H p (.lst vs)) := Grow.bump hp
  have r2 : Rel F.z (bump μ (fr.length + lv.length) p) (upd H p (.lst vs)) fr (lv ++ [.lst xs]) := r.new hp ⟨vs, Rps.grow gb _ _ h, upd_same⟩
  refine g (.ref p) _ _ r2 (by rw [hlen]; exact gb) ?_
  show Rp F.z _ _ _ (.ref (fr.length + lv.length)) _
  simp only [Rp]
  exact ⟨by rw [hlen]; omega, by rw [bump_self]⟩
theorem listAt_of {Z : Zx} {μ : Nat → Addr} {H : Hp} {fr lv : Sto} (r : Rel Z μ H fr lv) {d : D} {v : V} {xs : List D} (h : Rp Z μ (fr.length + lv.length) H d v) (e : listAt fr lv d = some xs) :
    ∃ a vs, v = .ref a ∧ Rd H a (.lst vs) ∧ Rps Z μ (fr.length + lv.length) H xs vs := by
  cases d with
  | ref l =>
    simp only [listAt] at e
    simp only [Rp] at h
    cases q : look fr lv l with
    | none => rw [q] at e; cases e
    | some o =>
      rw [q] at e
      cases o with
      | lst ys =>
        simp only [Option.some.injEq] at e
        subst e
        obtain ⟨vs, h1, h2⟩ := (r.obj l _ q).lst
        exact ⟨_, vs, h.2, h2, h1⟩
      | _ => cases e
  | _ => simp [listAt] at e
theorem liveL_of {Z : Zx} {μ : Nat → Addr} {H : Hp} {fr lv : Sto} (r : Rel Z μ H fr lv) {d : D} {v : V} {xs : List D} (h : Rp Z μ (fr.length + lv.length) H d v) (e : liveL fr lv d = some xs) :
    ∃ a vs, v = .ref a ∧ H a = some (.lst vs) ∧ Rps Z μ (fr.length + lv.length) H xs vs := by
  cases d with
  | ref l =>
    simp only [liveL] at e
    simp only [Rp] at h
    split at e
    · rename_i c
      simp only [listAt] at e
      cases q : look fr lv l with
      | none => rw [q] at e; cases e
      | some o =>
        rw [q] at e
        cases o with
        | lst ys =>
          simp only [Option.some.injEq] at e
          subst e
          obtain ⟨vs, h1, h2⟩ := r.obj l _ q
          rw [decide_eq_true c, if_pos rfl] at h2
          exact ⟨_, vs, h.2, h2, h1⟩
        | _ => cases e
    · cases e
  | _ => simp [liveL] at e
/-! ### arithmetic -/
theorem op_of {f : Value → Value → Sem Value} {r r' : R2} (h : OpR X f r) (i : ∀ x y H Q, r' x y H Q → r x y H Q) : OpR X f r' := fun pins s σ H x y v u Q I rx ry q => h pins s σ H x y v u Q I rx ry (i _ _ _ _ q)
theorem op_cases {f : Value → Value → Sem Value} {p : Sto → Sto → D → D → R D} (h : ∀ dx dy, OpR X f fun x y H Q => ∃ σ μ fr lv, Rel F.z μ H fr lv ∧ Rp F.z μ (fr.length + lv.length) H dx x ∧ Rp F.z μ (fr.length + lv.length) H dy y ∧ Go F (YV F) σ H μ fr lv (p fr lv dx dy) Q) :
    OpR X f (rP F p) := fun pins s σ H x y v u Q I rx ry ⟨σ', μ, fr, lv, dx, dy, q⟩ => h dx dy pins s σ H x y v u Q I rx ry ⟨σ', μ, fr, lv, q⟩
theorem rp_int {Z : Zx} {μ : Nat → Addr} {n : Nat} {H : Hp} {i : Int} {v : V} (h : Rp Z μ n H (.int i) v) : v = .int i := by simpa only [Rp] using h
theorem rp_str {Z : Zx} {μ : Nat → Addr} {n : Nat} {H : Hp} {i : Str} {v : V} (h : Rp Z μ n H (.str i) v) : v = .str i := by simpa only [Rp] using h
theorem rp_bl {Z : Zx} {μ : Nat → Addr} {n : Nat} {H : Hp} {i : Bool} {v : V} (h : Rp Z μ n H (.bl i) v) : v = .bl i := by simpa only [Rp] using h
theorem rp_tup {Z : Zx} {μ : Nat → Addr} {n : Nat} {H : Hp} {xs : List D} {v : V} (h : Rp Z μ n H (.tup xs) v) : ∃ a vs, v = .ref a ∧ SqT Z.K H a vs ∧ Rps Z μ n H xs vs := by simpa only [Rp] using h
theorem op_sub' : OpR X (binaryOp .Sub) (rP F fun fr lv => bop fr lv .sub) := op_cases fun dx dy => op_of op_sub fun x y H Q ⟨σ, μ, fr, lv, r, px, py, g⟩ => by
  cases dx <;> cases dy <;> first
    | exact g.elim
    | exact ⟨_, _, rp_int px, rp_int py, Go.now (F := F) (a := D.int _) g r (rp_sc.2.1 _)⟩
theorem op_fdiv' : OpR X (binaryOp .FloorDiv) (rP F fun fr lv => bop fr lv .fdiv) := op_cases fun dx dy => op_of op_fdivW fun x y H Q ⟨σ, μ, fr, lv, r, px, py, g⟩ => by
  cases dx <;> cases dy <;> first
    | exact g.elim
    | (have g : Go F (YV F) σ H μ fr lv (if _ then _ else _) Q := g
       split at g
       · rename_i c
         refine ⟨_, _, rp_int px, rp_int py, wide_div (b := 1000) c.1 ?_ (by decide) (by decide), Go.now (F := F) (a := D.int _) g r (rp_sc.2.1 _)⟩
         have c2 := c.2
         omega
       · exact g.elim)
theorem op_mod' : OpR X (binaryOp .Mod) (rP F fun fr lv => bop fr lv .mod) := op_cases fun dx dy => op_of op_mod fun x y H Q ⟨σ, μ, fr, lv, r, px, py, g⟩ => by
  cases dx <;> cases dy <;> first
    | exact g.elim
    | (have g : Go F (YV F) σ H μ fr lv (if _ then _ else _) Q := g
       split at g
       · rename_i c
         exact ⟨_, _, rp_int px, rp_int py, c, Go.now (F := F) (a := D.int _) g r (rp_sc.2.1 _)⟩
       · exact g.elim)
theorem op_pow' : OpR X (binaryOp .Pow) (rP F fun fr lv => bop fr lv .pow) := op_cases fun dx dy => op_of op_pow fun x y H Q ⟨σ, μ, fr, lv, r, px, py, g⟩ => by
  cases dx <;> cases dy <;> first
    | exact g.elim
    | (have g : Go F (YV F) σ H μ fr lv (if _ then _ else _) Q := g
       split at g
       · rename_i c
         have c3 := c.2.2
         unfold small at c3
         have c4 := of_decide_eq_true c3
         exact ⟨_, _, rp_int px, rp_int py, ⟨c.1, by omega, by omega⟩, Go.now (F := F) (a := D.int _) g r (rp_sc.2.1 _)⟩
       · exact g.elim)
theorem op_add' (ft : Fits X F) : OpR X (binaryOp .Add) (rP F fun fr lv => bop fr lv .add) := op_cases fun dx dy => by
  have hl : ∀ dx dy, (∀ fr lv, bop fr lv .add dx dy = (match liveL fr lv dx, liveL fr lv dy with
      | some xs, some ys => if xs.length + ys.length ≤ lineMax then new fr lv (.lst (xs ++ ys)) else .bad
      | _, _ => .bad)) → OpR X (binaryOp .Add) fun x y H Q => ∃ σ μ fr lv, Rel F.z μ H fr lv ∧ Rp F.z μ (fr.length + lv.length) H dx x ∧ Rp F.z μ (fr.length + lv.length) H dy y ∧ Go F (YV F) σ H μ fr lv (bop fr lv .add dx dy) Q :=
    fun dx dy e => op_of op_cat fun x y H Q ⟨σ, μ, fr, lv, r, px, py, g⟩ => by
      rw [e] at g
      cases e1 : liveL fr lv dx with
      | none => rw [e1] at g; exact g.elim
      | some xs =>
        cases e2 : liveL fr lv dy with
        | none => rw [e1, e2] at g; exact g.elim
        | some ys =>
          rw [e1, e2] at g
          have g : Go F (YV F) σ H μ fr lv (if _ then _ else _) Q := g
          split at g
          · rename_i c
            obtain ⟨a, vs, rfl, h1, h2⟩ := liveL_of r px e1
            obtain ⟨b, ws, rfl, h3, h4⟩ := liveL_of r py e2
            exact ⟨a, b, vs, ws, rfl, rfl, h1, h3, by rw [← h2.length, ← h4.length]; exact Nat.le_trans c lineMax_le, fun p hp => Go.lst g r (h2.app h4) hp⟩
          · exact g.elim
  cases dx <;> cases dy <;> first
    | exact hl _ _ (fun _ _ => rfl)
    | skip
  · exact op_of op_add fun x y H Q ⟨σ, μ, fr, lv, r, px, py, g⟩ => ⟨_, _, rp_int px, rp_int py, Go.now (F := F) (a := D.int _) g r (rp_sc.2.1 _)⟩
  · exact op_of op_add_str fun x y H Q ⟨σ, μ, fr, lv, r, px, py, g⟩ => by
      have g : Go F (YV F) σ H μ fr lv (if _ then _ else _) Q := g
      split at g
      · rename_i c
        exact ⟨_, _, rp_str px, rp_str py, Nat.le_trans c lineMax_le, Go.now (F := F) (a := D.str _) g r (rp_sc.2.2.1 _)⟩
      · exact g.elim
  · exact op_of op_catA fun x y H Q ⟨σ, μ, fr, lv, r, px, py, g⟩ => by
      have g : Go F (YV F) σ H μ fr lv (if _ then _ else _) Q := g
      split at g
      · rename_i c
        obtain ⟨a, vs, rfl, h1, h2⟩ := rp_tup px
        obtain ⟨b, ws, rfl, h3, h4⟩ := rp_tup py
        rw [← ft.K] at h1 h3
        refine ⟨a, b, vs, ws, rfl, rfl, h1, h3, by rw [← h2.length, ← h4.length]; exact Nat.le_trans c lineMax_le, fun e => ?_, fun n e => ?_, fun n1 n2 p hp => Go.tup g r (h2.app h4) hp⟩
        · subst e
          have e0 : ∀ zs : List D, zs.length = ([] : List V).length → zs = [] := fun zs h => List.eq_nil_of_length_eq_zero h
          have e1 := e0 _ h2.length
          subst e1
          exact Go.now (F := F) (a := D.tup _) g r (by show Rp _ _ _ _ _ _; simp only [Rp]; exact ⟨b, ws, rfl, by rw [← ft.K]; exact h3, by simpa using h4⟩)
        · subst e
          have e0 : ∀ zs : List D, zs.length = ([] : List V).length → zs = [] := fun zs h => List.eq_nil_of_length_eq_zero h
          have e1 := e0 _ h4.length
          subst e1
          exact Go.now (F := F) (a := D.tup _) g r (by show Rp _ _ _ _ _ _; simp only [Rp]; exact ⟨a, vs, rfl, by rw [← ft.K]; exact h1, by simpa using h2⟩)
      · exact g.elim
end
end Sv
end -- Sem2
section -- Sem3
set_option Elab.async false
set_option linter.all false
set_option maxRecDepth 100000
set_option maxHeartbeats 2000000
/-! # Operators: times; comparisons -/
namespace Sv
open PySem PySem.Spec PyProof.Rows L2

section
variable {X : Cx} {F : Fm}
/-! ### times -/
theorem tuple_mul0 (l : Addr) (items : Array Value) (n : Nat) (dd : Option Addr) (sl : Array (Option Value)) (x : Int) (u : Tok) (c0 : (decide (x < -(2 ^ 63)) || decide (x ≥ 2 ^ 63)) = false) (c1 : (items.isEmpty || x == 1) = true) :
    Meets (Builtin.«tuple.__mul__» ⟨[.ref l, .int x u], []⟩) (fun _ R s => s.heap.get? l = some { cls := .type "tuple", dict := dd, data := .seq items n, slots := sl } ∧
      R (.ok (.ret (Value.ref l))) s) :=
  .of_wp fun prog w A R s h => by
    obtain ⟨hp, g, d, tk, os⟩ := s
    obtain ⟨hl, h⟩ := h
    have f1 := AutoSeq1.idx_int
    wp_walk using wpAny_loadPart' hl
    repeat (first
      | (refine wpAny_ite_false (decide_eq_false (by rw [c0]; exact Bool.false_ne_true)) ?_; wp_walk using wpAny_loadPart' hl)
      | (refine wpAny_ite_true (decide_eq_true c1) ?_; wp_walk using wpAny_loadPart' hl))
    exact ⟨_, rfl, h⟩
theorem op_rep0 : OpR X (binaryOp .Mult) (fun x y H Q => ∃ l k, x = .ref l ∧ y = .int k ∧ SqT X.K H l [] ∧ 0 ≤ k ∧ k ≤ 1000 ∧ Q (.ref l) H) := by
  intro pins s σ H x y v u Q I rx ry h
  obtain ⟨l, k, rfl, rfl, hT, h1, h2, q⟩ := h
  cases rx
  obtain ⟨t, rfl⟩ := ry
  obtain ⟨its, r, ⟨⟨cls, dd, data, sl⟩, ho, hc, n, hd⟩, hs⟩ := I.tuple hT
  simp only at hc hd
  subst hc hd
  cases r
  have c0 : (decide (k < -(2 ^ 63)) || decide (k ≥ 2 ^ 63)) = false := by
    rw [decide_eq_false (by omega), decide_eq_false (by omega)] <;> rfl
  refine wpAny_binaryOp_repeat_ref (T := "tuple") (U := "int") (by decide) ⟨_, ho, rfl⟩ (fun s' => typeIs_int s' k t) noFill_tuple_mul PySem.F.fills_int_mul PySem.F.slot_int_rmul repeat_tuple PySem.F.slot_int_index.lookup
    (call_meets PySem.F.slot_int_rmul (typeIs_int s k t) PySem.F.entry_int_rmul (PySem.F.args_int_rmul_2 _ _) (int_rmul_tuple k t l _ n dd sl)
      ⟨ho, rfl, ⟨_, ho, rfl⟩, call_meets PySem.F.slot_tuple_mul ⟨_, ho, rfl⟩ PySem.F.entry_tuple_mul (PySem.F.args_tuple_mul_2 _ _) (tuple_mul0 l _ n dd sl k t c0 rfl) ⟨ho, ?_⟩⟩)
  exact ⟨.ref l, H, I, rfl, q⟩
theorem flat_arr (c : Array Nat) : ∀ (n : Nat) (acc : List Nat), (List.replicate n c).foldl (· ++ ·) acc.toArray = (acc ++ (List.replicate n c.toList).flatten).toArray
  | 0, acc => by simp
  | n + 1, acc => by
    rw [List.replicate_succ, List.foldl_cons]
    have e : acc.toArray ++ c = (acc ++ c.toList).toArray := by simp
    rw [e, flat_arr c n, List.replicate_succ, List.flatten_cons, List.append_assoc]
theorem mul_txt (a : Str) (n : Int) (h : 0 ≤ n) : Txt.mul a n = ⟨((List.replicate n.toNat a.cps.toList).flatten).toArray⟩ := by
  unfold Txt.mul
  by_cases h1 : n < 1
  · rw [if_pos h1]
    have : n = 0 := by omega
    subst this
    rfl
  · rw [if_neg h1]
    split
    · rename_i hc
      rw [Bool.or_eq_true, beq_iff_eq, beq_iff_eq] at hc
      rcases hc with hc | hc
      · subst hc
        simp
      · have : a.cps = #[] := Array.eq_empty_of_size_eq_zero hc
        obtain ⟨c⟩ := a
        simp only at this
        subst this
        have e : (List.replicate n.toNat ([] : List Nat)).flatten = [] := by simp
        simp
    · congr 1
      have := flat_arr a.cps n.toNat []
      simpa using this
theorem op_mulS : OpR X (binaryOp .Mult) (fun x y H Q => ∃ (a : Str) (n : Int), x = .str a ∧ y = .int n ∧ 0 ≤ n ∧ n * a.length ≤ lineMax ∧ n ≤ lineMax ∧ Q (.str ⟨((List.replicate n.toNat a.cps.toList).flatten).toArray⟩) H) := by
  intro pins s σ H x y v u Q I rx ry h
  obtain ⟨a, n, rfl, rfl, h1, h2, h3, q⟩ := h
  obtain ⟨t, rfl⟩ := rx
  obtain ⟨t', rfl⟩ := ry
  have hl : (lineMax : Nat) = 1000000 := rfl
  rw [← mul_txt a n h1] at q
  have hok : MulOk a n := by
    by_cases h0 : n < 1
    · have : n = 0 := by omega
      subst this
      exact ⟨by decide, fun h => absurd (by decide) h, fun h => absurd (by decide) h⟩
    · have h4 : a.length ≤ 1000000 := by
        have e : (1 : Int) * a.length ≤ n * a.length := Int.mul_le_mul_of_nonneg_right (by omega) (by omega)
        omega
      have hprod : a.length * n.toNat ≤ 16777216 := by
        have e : ((a.length * n.toNat : Nat) : Int) = n * (a.length : Int) := by
          rw [Int.natCast_mul, Int.toNat_of_nonneg (by omega), Int.mul_comm]
        omega
      refine ⟨by rw [decide_eq_false (by omega), decide_eq_false (by omega)] <;> rfl, fun _ _ => ?_, fun _ _ => short24 hprod⟩
      have hpos : 0 < n := by omega
      have e : ((a.length * n.toNat : Nat) : Int) = (a.length : Int) * n := by
        rw [Int.natCast_mul, Int.toNat_of_nonneg (by omega)]
      have h3 : (a.length : Int) * n ≤ 2 ^ 63 - 1 := by rw [← e]; omega
      have h4 : (a.length : Int) ≤ (2 ^ 63 - 1) / n := (Int.le_ediv_iff_mul_le hpos).mpr h3
      omega
  exact SB.mul hok fun t' k => ⟨.str _, H, I.tok _, ⟨_, rfl⟩, q⟩
theorem Rps.rep {Z : Zx} {μ : Nat → Addr} {n : Nat} {H : Hp} {xs : List D} {vs : List V} (h : Rps Z μ n H xs vs) : ∀ k : Nat, Rps Z μ n H (Sv.rep xs k) (List.replicate k vs).flatten
  | 0 => by simp [Sv.rep, Rps]
  | k + 1 => by
    unfold Sv.rep
    rw [List.replicate_succ, List.flatten_cons, List.replicate_succ, List.flatten_cons]
    exact h.app (Rps.rep h k)
theorem op_mul' (ft : Fits X F) : OpR X (binaryOp .Mult) (rP F fun fr lv => bop fr lv .mul) := op_cases fun dx dy => by
  have hl : ∀ dx n, (∀ fr lv, bop fr lv .mul dx (.int n) = (match liveL fr lv dx with
      | some xs => if 0 ≤ n ∧ n * xs.length ≤ lineMax ∧ n ≤ lineMax then new fr lv (.lst (rep xs n.toNat)) else .bad
      | none => .bad)) → OpR X (binaryOp .Mult) fun x y H Q => ∃ σ μ fr lv, Rel F.z μ H fr lv ∧ Rp F.z μ (fr.length + lv.length) H dx x ∧ Rp F.z μ (fr.length + lv.length) H (.int n) y ∧ Go F (YV F) σ H μ fr lv (bop fr lv .mul dx (.int n)) Q :=
    fun dx n e => op_of op_rep fun x y H Q ⟨σ, μ, fr, lv, r, px, py, g⟩ => by
      rw [e] at g
      cases e1 : liveL fr lv dx with
      | none => rw [e1] at g; exact g.elim
      | some xs =>
        rw [e1] at g
        have g : Go F (YV F) σ H μ fr lv (if _ then _ else _) Q := g
        split at g
        · rename_i c
          obtain ⟨a, vs, rfl, h1, h2⟩ := liveL_of r px e1
          have hl : (lineMax : Nat) = 1000000 := rfl
          have c1 := c.1
          have c2 := c.2.1
          have c3 := c.2.2
          refine ⟨a, n, vs, rfl, rp_int py, h1, by omega, by omega, ?_, fun p hp => Go.lst g r (h2.rep _) hp⟩
          rw [← h2.length]
          have e : ((xs.length * n.toNat : Nat) : Int) = n * (xs.length : Int) := by
            rw [Int.natCast_mul, Int.toNat_of_nonneg (by omega), Int.mul_comm]
          have := lineMax_le
          omega
        · exact g.elim
  have bad : ∀ {dx dy}, (∀ fr lv, bop fr lv .mul dx dy = .bad) → OpR X (binaryOp .Mult) fun x y H Q => ∃ σ μ fr lv, Rel F.z μ H fr lv ∧ Rp F.z μ (fr.length + lv.length) H dx x ∧ Rp F.z μ (fr.length + lv.length) H dy y ∧ Go F (YV F) σ H μ fr lv (bop fr lv .mul dx dy) Q :=
    fun e pins s σ H x y v u Q I rx ry ⟨_, _, _, _, _, _, _, g⟩ => by rw [e] at g; exact g.elim
  cases dy with
  | int n =>
    cases dx with
    | int a =>
      exact op_of op_mul fun x y H Q ⟨σ, μ, fr, lv, r, px, py, g⟩ => by
        have g : Go F (YV F) σ H μ fr lv (if _ then _ else _) Q := g
        split at g
        · rename_i c
          refine ⟨_, _, rp_int px, rp_int py, ?_, Go.now (F := F) (a := D.int _) g r (rp_sc.2.1 _)⟩
          rw [Bool.or_eq_true] at c
          exact c.imp (fun c => of_decide_eq_true c) fun c => of_decide_eq_true c
        · exact g.elim
    | str a =>
      exact op_of op_mulS fun x y H Q ⟨σ, μ, fr, lv, r, px, py, g⟩ => by
        have g : Go F (YV F) σ H μ fr lv (if _ then _ else _) Q := g
        split at g
        · rename_i c
          exact ⟨_, _, rp_str px, rp_int py, c.1, c.2.1, c.2.2, Go.now (F := F) (a := D.str _) g r (rp_sc.2.2.1 _)⟩
        · exact g.elim
    | tup a =>
      refine op_of (OpR.or op_repT op_rep0) fun x y H Q ⟨σ, μ, fr, lv, r, px, py, g⟩ => ?_
      have g : Go F (YV F) σ H μ fr lv (if _ then _ else if _ then _ else _) Q := g
      obtain ⟨b, vs, rfl, h1, h2⟩ := rp_tup px
      split at g
      · rename_i c
        have e := List.isEmpty_iff.mp c.1
        subst e
        have e2 : vs = [] := by simpa only [Rps] using h2
        subst e2
        refine .inr ⟨b, n, rfl, rp_int py, by rw [ft.K]; exact h1, c.2.1, c.2.2, Go.now (F := F) (a := D.tup _) g r ?_⟩
        show Rp F.z _ _ _ (D.tup []) _
        simp only [Rp]
        exact ⟨b, [], rfl, h1, rfl⟩
      · rename_i c0
        split at g
        · rename_i c
          refine .inl ⟨b, n, vs, rfl, rp_int py, by rw [ft.K]; exact h1, fun e => c0 ?_, c.1, c.2.1, by rw [← h2.length]; exact c.2.2, fun p hp => Go.tup g r (h2.rep _) hp⟩
          subst e
          have e0 : a = [] := List.eq_nil_of_length_eq_zero h2.length
          subst e0
          exact ⟨rfl, by omega, c.2.1⟩
        · exact g.elim
    | _ => exact hl _ _ fun _ _ => rfl
  | _ => cases dx <;> exact bad fun _ _ => rfl
end
end Sv
end -- Sem3
section -- Sem4
set_option Elab.async false
set_option linter.all false
set_option maxRecDepth 100000
set_option maxHeartbeats 2000000
/-! # Operators: comparisons -/
namespace Sv
open PySem PySem.Spec PyProof.Rows L2

section
variable {X : Cx} {F : Fm} {pins : List (Addr × Obj)} {s : Shared} {σ : L2.St} {H : Hp} {μ : Nat → Addr} {fr lv : Sto}
/-! ### two dicts, one of them empty -/
theorem Inv.dictO (I : Inv X pins σ H s) {a : Addr} {es : Array DictEntry} (h : Rd H a (Sv.dictO es a)) : ∃ ep, s.heap.get? a = some ({ cls := .type "dict", data := .dict es ep } : Obj) := by
  have := h.ok I.hok
  exact this.1
theorem pairs_sizes {prog : Program} {w : World} {A : Around} {E : Value → Shared → Prop} {s : Shared} {nm : String} {a b : Addr} {oa ob : Obj} {es es' : Array DictEntry} {ep ep' : Nat} {Q : Bool → Shared → Prop} (ha : (a == sysModules) = false) (hb : (b == sysModules) = false)
    (hoa : s.heap.get? a = some oa) (hob : s.heap.get? b = some ob) (hda : oa.data = .dict es ep) (hdb : ob.data = .dict es' ep') (h0 : es.size = 0 ∨ es'.size = 0) (h : Q (es.size == 0 && es'.size == 0) s) :
    wpAny (model prog w) A (Builtin.Dict.samePairs nm a b) Q E s := by
  unfold Builtin.Dict.samePairs Builtin.Dict.showsAll
  rw [if_neg (show ¬ (a == sysModules) = true by rw [ha]; exact Bool.false_ne_true), if_neg (show ¬ (b == sysModules) = true by rw [hb]; exact Bool.false_ne_true)]
  refine wpAny_bind (wpAny_pure (wpAny_bind (wpAny_pure ?_)))
  refine wpAny_bind (wpAny_dictEntries hoa hda ?_)
  dsimp only
  refine wpAny_bind (wpAny_dictEntries hob hdb ?_)
  by_cases hsz : es.size = es'.size
  · have e0 : es.size = 0 := by omega
    have e1 : es'.size = 0 := by omega
    rw [e0, e1] at h ⊢
    rw [if_neg (by simp)]
    refine wpAny_bind (wpAny_dictEpoch hoa hda ?_)
    refine wpAny_bind ?_
    rw [Std.Legacy.Range.forIn_eq_forIn_range']
    simp only [Std.Legacy.Range.size, Nat.sub_zero, Nat.add_sub_cancel, Nat.div_one]
    refine wpAny_pure ?_
    exact wpAny_pure h
  · rw [if_pos (by simpa using hsz)]
    have hbf : (es.size == 0 && es'.size == 0) = false := by
      rw [Bool.eq_false_iff]
      intro z
      rw [Bool.and_eq_true, beq_iff_eq, beq_iff_eq] at z
      omega
    rw [hbf] at h
    exact wpAny_bind (wpAny_rule (wpAny_pure h))
theorem dict_cmp {prog : Program} {w : World} {A : Around} {E : Value → Shared → Prop} {s : Shared} {a b : Addr} {es es' : Array DictEntry} {ep ep' : Nat} (ha : (a == sysModules) = false) (hb : (b == sysModules) = false)
    (hoa : s.heap.get? a = some ({ cls := .type "dict", data := .dict es ep } : Obj)) (hob : s.heap.get? b = some ({ cls := .type "dict", data := .dict es' ep' } : Obj)) (hu : A.units < cLine) (h0 : es.size = 0 ∨ es'.size = 0) :
    (∀ Q : Value → Shared → Prop, Q (.bool (es.size == 0 && es'.size == 0)) s → wpAny (model prog w) A (compareOp .Eq (.ref a) (.ref b)) Q E s) ∧
    (∀ Q : Value → Shared → Prop, Q (.bool (!(es.size == 0 && es'.size == 0))) s → wpAny (model prog w) A (compareOp .NotEq (.ref a) (.ref b)) Q E s) := by
  have ta : s.TypeIs (.ref a) "dict" := ⟨_, hoa, rfl⟩
  have tb : s.TypeIs (.ref b) "dict" := ⟨_, hob, rfl⟩
  constructor
  · intro Q h
    refine wpAny_richCompare_same_room (op := .Eq) ta tb PySem.F.slot_dict_eq (wpAny_call_entry PySem.F.slot_dict_eq ta PySem.F.entry_dict_eq ?_ (PySem.F.args_dict_eq_2 _ _)) hu
    show wpAny _ _ (Builtin.Dict.dictSlotArgs "__eq__" ⟨[.ref a, .ref b], []⟩ >>= _) _ _ s
    refine wpAny_bind ?_
    unfold Builtin.Dict.dictSlotArgs
    refine wpAny_bind (wpAny_notOrdered_dict ta ?_)
    show wpAny _ _ (pure (Value.ref a, Value.ref b)) _ _ s
    refine wpAny_pure ?_
    refine wpAny_bind (wpAny_isInstance (T := "dict") tb PySem.F.sub_dict_dict ?_)
    simp only [Bool.not_true, Bool.false_eq_true, if_false]
    refine wpAny_bind (wpAny_pure (wpAny_bind (wpAny_pure ?_)))
    refine wpAny_bind (pairs_sizes ha hb hoa hob rfl rfl h0 ?_)
    refine wpAny_pure ⟨_, rfl, ?_, ?_⟩
    · exact fun x => nomatch x
    · simpa using h
  · intro Q h
    refine wpAny_richCompare_same_room (op := .NotEq) ta tb PySem.F.slot_dict_ne (wpAny_call_entry PySem.F.slot_dict_ne ta PySem.F.entry_dict_ne ?_ (PySem.F.args_dict_ne_2 _ _)) hu
    show wpAny _ _ (Builtin.Dict.dictSlotArgs "__ne__" ⟨[.ref a, .ref b], []⟩ >>= _) _ _ s
    refine wpAny_bind ?_
    unfold Builtin.Dict.dictSlotArgs
    refine wpAny_bind (wpAny_notOrdered_dict ta ?_)
    show wpAny _ _ (pure (Value.ref a, Value.ref b)) _ _ s
    refine wpAny_pure ?_
    refine wpAny_bind (wpAny_isInstance (T := "dict") tb PySem.F.sub_dict_dict ?_)
    simp only [Bool.not_true, Bool.false_eq_true, if_false]
    refine wpAny_bind (wpAny_pure (wpAny_bind (wpAny_pure ?_)))
    refine wpAny_bind (pairs_sizes ha hb hoa hob rfl rfl h0 ?_)
    refine wpAny_pure ⟨_, rfl, ?_, ?_⟩
    · exact fun x => nomatch x
    · simpa using h
/-! ### equality -/
theorem emptyL_of {d : D} {k b : Bool} (h : emptyL fr lv d = some (k, b)) : (k = false ∧ ∃ xs, listAt fr lv d = some xs ∧ b = xs.isEmpty) ∨ (k = true ∧ ∃ l kvs lk, d = .ref l ∧ look fr lv l = some (.dct kvs lk) ∧ b = kvs.isEmpty) := by
  cases d with
  | ref l =>
    simp only [emptyL] at h
    cases q : look fr lv l with
    | none => rw [q] at h; cases h
    | some o =>
      rw [q] at h
      cases o with
      | lst xs =>
        simp only [Option.some.injEq, Prod.mk.injEq] at h
        exact .inl ⟨h.1.symm, xs, by simp only [listAt, q], h.2.symm⟩
      | dct kvs lk =>
        simp only [Option.some.injEq, Prod.mk.injEq] at h
        exact .inr ⟨h.1.symm, l, kvs, lk, rfl, q, h.2.symm⟩
      | ins c fs => cases h
  | _ => cases h
theorem pairedLen {α β : Type} {R : α → β → Prop} {l₁ : List α} {l₂ : List β} (h : Paired R l₁ l₂) : l₁.length = l₂.length := Paired.length h
theorem dct_of {Z : Zx} (r : Rel Z μ H fr lv) {l : Nat} {kvs : List (D × D)} {lk : Bool} (e : look fr lv l = some (.dct kvs lk)) :
    ∃ es : List DictEntry, (μ l == sysModules) = false ∧ kvs.length ≤ sizeLine ∧ (kvs.map (·.1)).Nodup ∧ Paired (EnR Z μ (fr.length + lv.length) H) kvs es ∧ Rd H (μ l) (dictO es.toArray (μ l)) := by
  obtain ⟨h1, h2, h3, es, h4, h5⟩ := r.obj l _ e
  refine ⟨es, h1, h2, h3, h4, ?_⟩
  split at h5
  · exact .inl h5
  · exact h5
theorem isList_of (I : Inv X pins σ H s) {a : Addr} {vs : List V} (h : Rd H a (.lst vs)) : ∃ its : Array Value, s.heap.IsList a its ∧ its.size = vs.length := by
  obtain ⟨its, rv, hl, _⟩ := I.list (.inl h)
  exact ⟨its.toArray, hl.isList, by rw [List.size_toArray]; exact rv.length.symm⟩
/-- two values compared -/
def CmpAt (X : Cx) (s : Shared) (v u : Value) (b : Bool) : Prop :=
  (∀ Q : Value → Shared → Prop, Q (.bool b) s → wpAny (model X.prog X.w) X.A (compareOp .Eq v u) Q X.xe s) ∧ ∀ Q : Value → Shared → Prop, Q (.bool (!b)) s → wpAny (model X.prog X.w) X.A (compareOp .NotEq v u) Q X.xe s
theorem eqD_at (ft : Fits X F) (I : Inv X pins σ H s) (r : Rel F.z μ H fr lv) {dx dy : D} {x y : V} {v u : Value} {b : Bool} (px : Rp F.z μ (fr.length + lv.length) H dx x) (py : Rp F.z μ (fr.length + lv.length) H dy y) (rx : RelV x v) (ry : RelV y u)
    (e : eqD fr lv dx dy = some b) : CmpAt X s v u b := by
  have hu := ft.un
  have data : ∀ {p q}, pd fr lv pdDepth dx = some p → pd fr lv pdDepth dy = some q → b = p.eqv q → CmpAt X s v u b := fun {p q} e1 e2 e3 => by
    obtain ⟨d1, s1⟩ := pd_shaped r px e1
    obtain ⟨d2, s2⟩ := pd_shaped r py e2
    rw [← ft.K] at d1 d2
    obtain ⟨as, r1⟩ := Dp.reads I p x v d1 rx
    obtain ⟨bs, r2⟩ := Dp.reads I q y u d2 ry
    subst e3
    exact ⟨fun Q h => SeqAt.compareEq_shaped r1 r2 s1 s2 (by omega) h, fun Q h => SeqAt.compareNe_shaped r1 r2 s1 s2 (by omega) h⟩
  have gen : (match emptyL fr lv dx, emptyL fr lv dy with
    | some (d, x), some (e, y) => if d == e ∧ (x ∨ y) then some (x && y) else (match pd fr lv pdDepth dx, pd fr lv pdDepth dy with
      | some x, some y => some (x.eqv y)
      | _, _ => none)
    | _, _ => match pd fr lv pdDepth dx, pd fr lv pdDepth dy with
      | some x, some y => some (x.eqv y)
      | _, _ => none) = some b → CmpAt X s v u b := fun e => by
    have dat : (match pd fr lv pdDepth dx, pd fr lv pdDepth dy with
      | some x, some y => some (x.eqv y)
      | _, _ => none) = some b → CmpAt X s v u b := fun e => by
      cases e1 : pd fr lv pdDepth dx with
      | none => rw [e1] at e; cases e
      | some p =>
        cases e2 : pd fr lv pdDepth dy with
        | none => rw [e1, e2] at e; cases e
        | some q => rw [e1, e2] at e; exact data e1 e2 (Option.some.inj e).symm
    cases e1 : emptyL fr lv dx with
    | none => rw [e1] at e; exact dat e
    | some p =>
      cases e2 : emptyL fr lv dy with
      | none => rw [e1, e2] at e; exact dat e
      | some q =>
        obtain ⟨k1, b1⟩ := p
        obtain ⟨k2, b2⟩ := q
        rw [e1, e2] at e
        simp only at e
        split at e
        · rename_i c
          have ek := eq_of_beq c.1
          have eb : b = (b1 && b2) := (Option.some.inj e).symm
          subst eb
          rcases emptyL_of e1 with ⟨z1, xs, l1, q1⟩ | ⟨z1, l, kvs, lk, l1, l1', q1⟩
          · rcases emptyL_of e2 with ⟨z2, ys, l2, q2⟩ | ⟨z2, l, kvs, lk, l2, q2⟩
            · obtain ⟨a1, vs, w1, w2, w3⟩ := listAt_of r px l1
              obtain ⟨a2, us, w4, w5, w6⟩ := listAt_of r py l2
              subst w1; subst w4
              cases rx; cases ry
              obtain ⟨i1, h1, n1⟩ := isList_of I w2
              obtain ⟨i2, h2, n2⟩ := isList_of I w5
              have m1 : i1.size = xs.length := by rw [n1, w3.length]
              have m2 : i2.size = ys.length := by rw [n2, w6.length]
              by_cases hs : i1.size = i2.size
              · have hx : xs.length = 0 := by
                  have c2 := c.2
                  rw [q1, q2, List.isEmpty_iff, List.isEmpty_iff] at c2
                  rcases c2 with c2 | c2
                  · rw [c2]; rfl
                  · rw [c2] at m2
                    have : ([] : List D).length = 0 := rfl
                    omega
                have e0 : i1.size = 0 := by omega
                have et : (b1 && b2) = true := by
                  rw [q1, q2, List.eq_nil_of_length_eq_zero hx, List.eq_nil_of_length_eq_zero (show ys.length = 0 by omega)]
                  rfl
                have ee : (List.range i1.size).all (fun _ => true) = true := by rw [e0]; rfl
                rw [et]
                refine ⟨fun Q h => ?_, fun Q h => ?_⟩
                · exact SeqAt.RcAt.lists (e := fun _ => true) h1 h2 hs (by omega) (fun j z _ => by omega) _ _ _ Q (by rw [ee]; exact h)
                · exact SeqAt.RcNeAt.lists (e := fun _ => true) h1 h2 hs (by omega) (fun j z _ => by omega) _ _ _ Q (by rw [ee]; exact h)
              · have et : (b1 && b2) = false := by
                  rw [q1, q2, Bool.eq_false_iff]
                  intro z
                  rw [Bool.and_eq_true, List.isEmpty_iff, List.isEmpty_iff] at z
                  rw [z.1] at m1
                  rw [z.2] at m2
                  exact hs (by rw [m1, m2])
                rw [et]
                exact ⟨fun Q h => SeqAt.RcAt.lists_lengths h1 h2 (by simpa using hs) (by omega) _ _ _ Q h, fun Q h => SeqAt.RcNeAt.lists_lengths h1 h2 (by simpa using hs) (by omega) _ _ _ Q h⟩
            · rw [z1, z2] at ek; cases ek
          · rcases emptyL_of e2 with ⟨z2, ys, l2, q2⟩ | ⟨z2, l', kvs', lk', l2, l2', q2⟩
            · rw [z1, z2] at ek; cases ek
            · subst l1; subst l2
              obtain ⟨es, a1, a2, a3, a4, a5⟩ := dct_of r l1'
              obtain ⟨es', b1', b2', b3, b4, b5⟩ := dct_of r l2'
              simp only [Rp] at px py
              obtain ⟨_, rfl⟩ := px
              obtain ⟨_, rfl⟩ := py
              cases rx; cases ry
              obtain ⟨ep, ho⟩ := Inv.dictO I a5
              obtain ⟨ep', ho'⟩ := Inv.dictO I b5
              have em : ∀ {ks : List (D × D)} {zs : List DictEntry}, Paired (EnR F.z μ (fr.length + lv.length) H) ks zs → (zs.toArray.size == 0) = ks.isEmpty := fun {ks zs} hp => by
                have := pairedLen hp
                rw [List.size_toArray, ← this]
                cases ks <;> rfl
              have hd := dict_cmp (prog := X.prog) (w := X.w) (A := X.A) (E := X.xe) a1 b1' ho ho' (by omega) (by
                have c2 := c.2
                rw [q1, q2, ← em a4, ← em b4] at c2
                simpa using c2)
              rw [em a4, em b4, ← q1, ← q2] at hd
              exact hd
        · exact dat e
  cases dx with
  | int i =>
    cases dy with
    | int j =>
      have := rp_int px; subst this
      have := rp_int py; subst this
      obtain ⟨t, rfl⟩ := rx
      obtain ⟨t', rfl⟩ := ry
      have eb : b = (i == j) := (Option.some.inj e).symm
      subst eb
      exact ⟨fun Q h => eq_int h, fun Q h => ne_int (by simpa [bne] using h)⟩
    | _ => exact gen e
  | str i =>
    cases dy with
    | str j =>
      have := rp_str px; subst this
      have := rp_str py; subst this
      obtain ⟨t, rfl⟩ := rx
      obtain ⟨t', rfl⟩ := ry
      have eb : b = (i == j) := (Option.some.inj e).symm
      subst eb
      exact ⟨fun Q h => eq_str h, fun Q h => ne_str (by simpa [bne] using h)⟩
    | _ => exact gen e
  | _ => cases dy <;> exact gen e
/-- a bool told -/
theorem go_bl {o : Option Bool} {Q : VK} (g : Go F (YV F) σ H μ fr lv (R.of (o.map .bl) lv) Q) (r : Rel F.z μ H fr lv) : ∃ b, o = some b ∧ Q (.bl b) H := by
  cases o with
  | none => exact g.elim
  | some b => exact ⟨b, rfl, Go.now (F := F) (a := D.bl b) g r (rp_sc.1 b)⟩
theorem op_eq' (ft : Fits X F) : OpR X (compareOp .Eq) (rP F fun fr lv x y => .of ((cop fr lv .eq x y).map .bl) lv) := fun pins s σ H x y v u Q I rx ry ⟨σ', μ, fr, lv, dx, dy, r, px, py, g⟩ => by
  obtain ⟨b, e, q⟩ := go_bl g r
  exact (eqD_at ft I r px py rx ry e).1 _ ⟨.bl b, H, I, rfl, q⟩
theorem op_ne' (ft : Fits X F) : OpR X (compareOp .NotEq) (rP F fun fr lv x y => .of ((cop fr lv .ne x y).map .bl) lv) := fun pins s σ H x y v u Q I rx ry ⟨σ', μ, fr, lv, dx, dy, r, px, py, g⟩ => by
  obtain ⟨b, e, q⟩ := go_bl g r
  obtain ⟨b', e', rfl⟩ := Option.map_eq_some_iff.mp e
  exact (eqD_at ft I r px py rx ry e').2 _ ⟨.bl _, H, I, rfl, q⟩
end
end Sv
end -- Sem4
section -- Sem5
set_option Elab.async false
set_option linter.all false
set_option maxRecDepth 100000
set_option maxHeartbeats 2000000
/-! # Operators: order, in, is -/
namespace Sv
open PySem PySem.Spec PyProof.Rows L2

theorem lex_shift {e r : Nat → Bool} {z : Bool} : ∀ (k i : Nat), Ob.lexAt e r z (i + 1) k = Ob.lexAt (fun j => e (j + 1)) (fun j => r (j + 1)) z i k
  | 0, _ => rfl
  | k + 1, i => by rw [Ob.lexAt_succ, Ob.lexAt_succ, lex_shift k (i + 1)]
/-- pairs that may be compared: what the first one that differs gives -/
def ordOk (xs ys : List PyData) : Prop := ∀ (j : Nat) (x y : PyData), xs[j]? = some x → ys[j]? = some y → x.eqv y = false → ∃ b, ltP x y = some b
theorem ltPs_ok : ∀ (xs ys : List PyData) (b : Bool), ltPs xs ys = some b → ordOk xs ys
  | [], ys, b, _ => fun j x y h => by simp at h
  | _ :: _, [], b, _ => fun j x y _ h => by simp at h
  | x :: xs, y :: ys, b, e => fun j p q hx hy hn => by
    simp only [ltPs] at e
    cases e1 : ltPs xs ys with
    | none => rw [e1] at e; cases e
    | some c =>
      rw [e1] at e
      simp only at e
      cases j with
      | zero =>
        simp only [List.getElem?_cons_zero, Option.some.injEq] at hx hy
        subst hx hy
        rw [hn, if_neg (by decide)] at e
        exact ⟨b, e⟩
      | succ j =>
        simp only [List.getElem?_cons_succ] at hx hy
        exact ltPs_ok xs ys c e1 j p q hx hy hn
def preEq (xs ys : List PyData) : Prop := ∀ (j : Nat) (x y : PyData), xs[j]? = some x → ys[j]? = some y → x.eqv y = true
theorem ltPs_lex (g : Bool → Bool) (r : Nat → Bool) : ∀ (xs ys : List PyData) (b : Bool), ltPs xs ys = some b → (∀ (j : Nat) (x y : PyData) (c : Bool), xs[j]? = some x → ys[j]? = some y → x.eqv y = false → ltP x y = some c → r j = g c) →
    ∀ (z : Bool), (preEq xs ys → z = g (decide (xs.length < ys.length))) →
    Ob.lexAt (fun j => (xs.getD j .none).eqv (ys.getD j .none)) r z 0 (min xs.length ys.length) = g b := by
  intro xs
  induction xs generalizing r with
  | nil =>
    intro ys b e hr z h2
    have : min ([] : List PyData).length ys.length = 0 := by simp
    rw [this, Ob.lexAt_zero]
    rw [h2 fun j x y h => by simp at h]
    cases ys with
    | nil =>
      simp only [ltPs, Option.some.injEq] at e
      subst e
      rfl
    | cons y ys =>
      simp only [ltPs, Option.some.injEq] at e
      subst e
      rfl
  | cons x xs ih =>
    intro ys b e hr z h2
    cases ys with
    | nil =>
      have : min (x :: xs).length ([] : List PyData).length = 0 := by simp
      rw [this, Ob.lexAt_zero, h2 fun j x y _ h => by simp at h]
      simp only [ltPs, Option.some.injEq] at e
      subst e
      rfl
    | cons y ys =>
      have hm : min (x :: xs).length (y :: ys).length = min xs.length ys.length + 1 := by simp only [List.length_cons]; omega
      rw [hm, Ob.lexAt_succ]
      simp only [ltPs] at e
      cases e1 : ltPs xs ys with
      | none => rw [e1] at e; cases e
      | some c =>
        rw [e1] at e
        simp only at e
        by_cases hq : x.eqv y = true
        · rw [if_pos hq, Option.some.injEq] at e
          subst e
          have q0 : ((x :: xs).getD 0 .none).eqv ((y :: ys).getD 0 .none) = true := hq
          rw [if_pos q0, lex_shift]
          exact ih (fun j => r (j + 1)) ys c e1 (fun j p q d hp hq => hr (j + 1) p q d hp hq) z fun t => by
            rw [h2 fun j p q hp hq' => by
              cases j with
              | zero =>
                simp only [List.getElem?_cons_zero, Option.some.injEq] at hp hq'
                subst hp hq'
                exact hq
              | succ j => exact t j p q (by simpa using hp) (by simpa using hq')]
            simp
        · rw [if_neg hq] at e
          have q0 : ¬ ((x :: xs).getD 0 .none).eqv ((y :: ys).getD 0 .none) = true := hq
          rw [if_neg q0]
          exact hr 0 x y b rfl rfl (by simpa using hq) e
theorem preEq_all : ∀ (xs ys : List PyData), xs.length = ys.length → preEq xs ys → PyData.eqvAll xs ys = true
  | [], [], _, _ => rfl
  | [], _ :: _, h, _ => by simp at h
  | _ :: _, [], h, _ => by simp at h
  | x :: xs, y :: ys, h, t => by
    simp only [PyData.eqvAll, Bool.and_eq_true]
    exact ⟨t 0 x y rfl rfl, preEq_all xs ys (by simpa using h) fun j p q hp hq => t (j + 1) p q (by simpa using hp) (by simpa using hq)⟩
theorem eqvAll_len : ∀ (xs ys : List PyData), PyData.eqvAll xs ys = true → xs.length = ys.length
  | [], [], _ => rfl
  | [], _ :: _, h => by simp [PyData.eqvAll] at h
  | _ :: _, [], h => by simp [PyData.eqvAll] at h
  | x :: xs, y :: ys, h => by
    simp only [PyData.eqvAll, Bool.and_eq_true] at h
    rw [List.length_cons, List.length_cons, eqvAll_len xs ys h.2]
theorem ltPs_eq : ∀ (xs ys : List PyData) (b : Bool), ltPs xs ys = some b → PyData.eqvAll xs ys = true → b = false
  | [], [], b, e, _ => by simpa [ltPs] using e.symm
  | [], _ :: _, b, e, h => by simp [PyData.eqvAll] at h
  | _ :: _, [], b, e, h => by simp [PyData.eqvAll] at h
  | x :: xs, y :: ys, b, e, h => by
    simp only [PyData.eqvAll, Bool.and_eq_true] at h
    simp only [ltPs] at e
    cases e1 : ltPs xs ys with
    | none => rw [e1] at e; cases e
    | some c =>
      rw [e1] at e
      simp only [h.1, if_true, Option.some.injEq] at e
      subst e
      exact ltPs_eq xs ys c e1 h.2
theorem str_le (x y : Str) : (!decide (y.cps.toList < x.cps.toList)) = (decide (x.cps.toList < y.cps.toList) || x == y) := by
  have e : (x == y) = decide (x.cps.toList = y.cps.toList) := by
    rw [← SeqAt.str_beq, Bool.eq_iff_iff]
    simp
  rw [e, Bool.eq_iff_iff]
  simp only [Bool.not_eq_true', decide_eq_false_iff_not, Bool.or_eq_true, decide_eq_true_eq, List.not_lt]
  exact List.le_iff_lt_or_eq
/-- what the three orders tell of two data -/
def Ords (A : Around) (s : Shared) (v u : Value) (x y : PyData) (b : Bool) : Prop := Ob.RcOp .Lt A s v u b ∧ Ob.RcOp .GtE A s v u (!b) ∧ Ob.RcOp .LtE A s v u (b || x.eqv y)
theorem reads_get {h : Heap} : ∀ {vs : List Value} {xs : List PyData} {as : List Addr}, ReadsAll h vs xs as → ∀ (j : Nat) (v : Value) (x : PyData), vs[j]? = some v → xs[j]? = some x → ∃ bs, Reads h v x bs
  | [], [], _, _, j, v, x, hv, _ => by simp at hv
  | v :: vs, x :: xs, _, .cons r1 r2, j, w, y, hv, hx => by
    cases j with
    | zero =>
      simp only [List.getElem?_cons_zero, Option.some.injEq] at hv hx
      subst hv hx
      exact ⟨_, r1⟩
    | succ j =>
      simp only [List.getElem?_cons_succ] at hv hx
      exact reads_get r2 j w y hv hx
theorem lay_get : ∀ {xs : List PyData}, PyData.canLayAll0 xs = true → ∀ (j : Nat) (x : PyData), xs[j]? = some x → x.canLay0 = true ∧ x.depth ≤ PyData.depthAll xs
  | [], _, j, x, h => by simp at h
  | y :: xs, hc, j, x, h => by
    have hc' : y.canLay0 = true ∧ PyData.canLayAll0 xs = true := by simpa [PyData.canLayAll0] using hc
    cases j with
    | zero =>
      simp only [List.getElem?_cons_zero, Option.some.injEq] at h
      subst h
      exact ⟨hc'.1, by simp only [PyData.depthAll]; omega⟩
    | succ j =>
      simp only [List.getElem?_cons_succ] at h
      have := lay_get hc'.2 j x h
      exact ⟨this.1, by simp only [PyData.depthAll]; omega⟩
theorem rc_ord : ∀ (n : Nat) (x y : PyData) (A : Around) (s : Shared) (v u : Value) (as bs : List Addr) (b : Bool), x.depth ≤ n → Reads s.heap v x as → Reads s.heap u y bs → x.canLay0 = true → y.canLay0 = true → A.units + n < cLine → ltP x y = some b → Ords A s v u x y b
  | n, .int i, .int j, A, s, _, _, _, _, b, _, .int _ t, .int _ t', _, _, _, e => by
    simp only [ltP, Option.some.injEq] at e
    subst e
    refine ⟨Ob.RcOp.lt_int i j t t', ?_, ?_⟩
    · have : (!decide (i < j)) = decide (j ≤ i) := by
        rw [Bool.eq_iff_iff]
        simp
      rw [this]
      exact Ob.RcOp.ge_int i j t t'
    · have : (decide (i < j) || (PyData.int i).eqv (.int j)) = decide (i ≤ j) := by
        rw [Bool.eq_iff_iff]
        simp [PyData.eqv]
        omega
      rw [this]
      exact Ob.RcOp.le_int i j t t'
  | n, .str p, .str q, A, s, _, _, _, _, b, _, .str _ t, .str _ t', _, _, _, e => by
    simp only [ltP, Option.some.injEq] at e
    subst e
    refine ⟨fun _ _ _ _ h => PyProof.Rows.lt_str h, fun _ _ _ _ h => PySem.P.ge_str h, fun _ _ _ _ h => PySem.P.le_str ?_⟩
    simp only [PyData.eqv] at h
    rw [← str_le] at h
    exact h
  | 0, .tuple xs, .tuple ys, A, s, _, _, _, _, b, hd, _, _, _, _, _, e => by simp [PyData.depth] at hd
  | n + 1, .tuple xs, .tuple ys, A, s, _, _, _, _, b, hd, .tuple (vs := vs) k1 k2 k3 k4, .tuple (vs := ws) m1 m2 m3 m4, hx, hy, hu, e => by
    simp only [ltP] at e
    have hl := SeqAt.ReadsAll.length _ _ _ k4
    have hl2 := SeqAt.ReadsAll.length _ _ _ m4
    have hd' : PyData.depthAll xs ≤ n := by simp only [PyData.depth] at hd; omega
    have hcx : PyData.canLayAll0 xs = true := by simpa [PyData.canLay0] using hx
    have hcy : PyData.canLayAll0 ys = true := by simpa [PyData.canLay0] using hy
    have s1 : vs.size = xs.length := by rw [← hl]; simp
    have s2 : ws.size = ys.length := by rw [← hl2]; simp
    have gx : ∀ j, j < xs.length → xs[j]? = some (xs.getD j .none) := fun j h => by simp [h]
    have gy : ∀ j, j < ys.length → ys[j]? = some (ys.getD j .none) := fun j h => by simp [h]
    have gv : ∀ j (h1 : j < vs.size), vs.toList[j]? = some vs[j] := fun j h1 => by simp [h1]
    have gw : ∀ j (h1 : j < ws.size), ws.toList[j]? = some ws[j] := fun j h1 => by simp [h1]
    have hin : A.in1.units = A.units + 1 := rfl
    have he : ∀ j (h1 : j < vs.size) (h2 : j < ws.size), SeqAt.EqAt A.in1 s vs[j] ws[j] ((xs.getD j .none).eqv (ys.getD j .none)) := fun j h1 h2 => by
      obtain ⟨c1, r1⟩ := reads_get k4 j _ _ (gv j h1) (gx j (by omega))
      obtain ⟨c2, r2⟩ := reads_get m4 j _ _ (gw j h2) (gy j (by omega))
      obtain ⟨l1, l2⟩ := lay_get hcx j _ (gx j (by omega))
      obtain ⟨l3, l4⟩ := lay_get hcy j _ (gy j (by omega))
      exact SeqAt.eqAt_reads _ _ _ _ _ _ _ _ r1 r2 l1 l3 (by rw [hin]; omega)
    have ho := ltPs_ok xs ys b e
    have hr : ∀ j (h1 : j < vs.size) (h2 : j < ws.size), (xs.getD j .none).eqv (ys.getD j .none) = false → ∃ c, ltP (xs.getD j .none) (ys.getD j .none) = some c ∧ Ords A.in1 s vs[j] ws[j] (xs.getD j .none) (ys.getD j .none) c := fun j h1 h2 hn => by
      obtain ⟨c, ec⟩ := ho j _ _ (gx j (by omega)) (gy j (by omega)) hn
      obtain ⟨c1, r1⟩ := reads_get k4 j _ _ (gv j h1) (gx j (by omega))
      obtain ⟨c2, r2⟩ := reads_get m4 j _ _ (gw j h2) (gy j (by omega))
      obtain ⟨l1, l2⟩ := lay_get hcx j _ (gx j (by omega))
      obtain ⟨l3, l4⟩ := lay_get hcy j _ (gy j (by omega))
      exact ⟨c, ec, rc_ord n _ _ _ _ _ _ _ _ c (by omega) r1 r2 l1 l3 (by rw [hin]; omega) ec⟩
    have t1 : s.heap.IsTuple _ vs := ⟨_, k1, k2, _, k3⟩
    have t2 : s.heap.IsTuple _ ws := ⟨_, m1, m2, _, m3⟩
    have hu' : A.units < cLine := by omega
    have q0 : ∀ {j x y}, xs[j]? = some x → ys[j]? = some y → xs.getD j .none = x ∧ ys.getD j .none = y := fun {j x y} h1 h2 => by simp [h1, h2]
    refine ⟨?_, ?_, ?_⟩
    · have := Ob.RcOp.tuples_lt (A := A) (s := s) (r := fun j => (ltP (xs.getD j .none) (ys.getD j .none)).getD false) t1 t2 hu' he fun j h1 h2 hn => by
        obtain ⟨c, ec, o⟩ := hr j h1 h2 hn
        rw [ec]
        exact o.1
      rw [s1, s2] at this
      rw [ltPs_lex (fun c => c) _ xs ys b e (fun j x y c h1 h2 _ h => by
        obtain ⟨w1, w2⟩ := q0 h1 h2
        rw [w1, w2, h]
        rfl) _ fun _ => rfl] at this
      exact this
    · have := Ob.RcOp.tuples_ge (A := A) (s := s) (r := fun j => !(ltP (xs.getD j .none) (ys.getD j .none)).getD false) t1 t2 hu' he fun j h1 h2 hn => by
        obtain ⟨c, ec, o⟩ := hr j h1 h2 hn
        rw [ec]
        exact o.2.1
      rw [s1, s2] at this
      rw [ltPs_lex (fun c => !c) _ xs ys b e (fun j x y c h1 h2 _ h => by
        obtain ⟨w1, w2⟩ := q0 h1 h2
        rw [w1, w2, h]
        rfl) _ fun _ => by
            rw [Bool.eq_iff_iff]
            simp] at this
      exact this
    · have := Ob.RcOp.tuples_le (A := A) (s := s) (r := fun j => (ltP (xs.getD j .none) (ys.getD j .none)).getD false || (xs.getD j .none).eqv (ys.getD j .none)) t1 t2 hu' he fun j h1 h2 hn => by
        obtain ⟨c, ec, o⟩ := hr j h1 h2 hn
        rw [ec]
        exact o.2.2
      rw [s1, s2] at this
      rw [show (PyData.tuple xs).eqv (.tuple ys) = PyData.eqvAll xs ys by simp [PyData.eqv]]
      cases t : PyData.eqvAll xs ys with
      | true =>
        have tl := eqvAll_len xs ys t
        have tb := ltPs_eq xs ys b e t
        rw [ltPs_lex (fun _ => true) _ xs ys b e (fun j x y c h1 h2 hn h => by
          exfalso
          have all : ∀ (xs ys : List PyData), PyData.eqvAll xs ys = true → ∀ (j : Nat) (x y : PyData), xs[j]? = some x → ys[j]? = some y → x.eqv y = true := by
            intro xs
            induction xs with
            | nil => intro ys _ j x y h; simp at h
            | cons a xs ih =>
              intro ys t j x y h1 h2
              cases ys with
              | nil => simp at h2
              | cons d ys =>
                simp only [PyData.eqvAll, Bool.and_eq_true] at t
                cases j with
                | zero =>
                  simp only [List.getElem?_cons_zero, Option.some.injEq] at h1 h2
                  subst h1 h2
                  exact t.1
                | succ j => exact ih ys t.2 j x y (by simpa using h1) (by simpa using h2)
          rw [all xs ys t j x y h1 h2] at hn
          cases hn) _ fun _ => decide_eq_true (by omega)] at this
        rw [Bool.or_true]
        exact this
      | false =>
        rw [Bool.or_false]
        rw [ltPs_lex (fun c => c) _ xs ys b e (fun j x y c h1 h2 hn h => by
          obtain ⟨w1, w2⟩ := q0 h1 h2
          rw [w1, w2, h, hn, Bool.or_false]
          rfl) (decide (xs.length ≤ ys.length)) fun t' => ?_] at this
        · exact this
        · have : xs.length ≠ ys.length := fun z => by rw [preEq_all xs ys z t'] at t; cases t
          rw [Bool.eq_iff_iff]
          simp
          omega
  | _, .none, _, _, _, _, _, _, _, _, _, _, _, _, _, _, e => by simp [ltP] at e
  | _, .bool _, _, _, _, _, _, _, _, _, _, _, _, _, _, _, e => by simp [ltP] at e
  | _, .list _, _, _, _, _, _, _, _, _, _, _, _, _, _, _, e => by simp [ltP] at e
  | _, .dict _, _, _, _, _, _, _, _, _, _, _, _, _, _, _, e => by simp [ltP] at e
  | _, .int _, .none, _, _, _, _, _, _, _, _, _, _, _, _, _, e => by simp [ltP] at e
  | _, .int _, .bool _, _, _, _, _, _, _, _, _, _, _, _, _, _, e => by simp [ltP] at e
  | _, .int _, .str _, _, _, _, _, _, _, _, _, _, _, _, _, _, e => by simp [ltP] at e
  | _, .int _, .list _, _, _, _, _, _, _, _, _, _, _, _, _, _, e => by simp [ltP] at e
  | _, .int _, .tuple _, _, _, _, _, _, _, _, _, _, _, _, _, _, e => by simp [ltP] at e
  | _, .int _, .dict _, _, _, _, _, _, _, _, _, _, _, _, _, _, e => by simp [ltP] at e
  | _, .str _, .none, _, _, _, _, _, _, _, _, _, _, _, _, _, e => by simp [ltP] at e
  | _, .str _, .bool _, _, _, _, _, _, _, _, _, _, _, _, _, _, e => by simp [ltP] at e
  | _, .str _, .int _, _, _, _, _, _, _, _, _, _, _, _, _, _, e => by simp [ltP] at e
  | _, .str _, .list _, _, _, _, _, _, _, _, _, _, _, _, _, _, e => by simp [ltP] at e
  | _, .str _, .tuple _, _, _, _, _, _, _, _, _, _, _, _, _, _, e => by simp [ltP] at e
  | _, .str _, .dict _, _, _, _, _, _, _, _, _, _, _, _, _, _, e => by simp [ltP] at e
  | _, .tuple _, .none, _, _, _, _, _, _, _, _, _, _, _, _, _, e => by simp [ltP] at e
  | _, .tuple _, .bool _, _, _, _, _, _, _, _, _, _, _, _, _, _, e => by simp [ltP] at e
  | _, .tuple _, .int _, _, _, _, _, _, _, _, _, _, _, _, _, _, e => by simp [ltP] at e
  | _, .tuple _, .str _, _, _, _, _, _, _, _, _, _, _, _, _, _, e => by simp [ltP] at e
  | _, .tuple _, .list _, _, _, _, _, _, _, _, _, _, _, _, _, _, e => by simp [ltP] at e
  | _, .tuple _, .dict _, _, _, _, _, _, _, _, _, _, _, _, _, _, e => by simp [ltP] at e

section
variable {X : Cx} {F : Fm}
/-! ### the orders -/
theorem data_of (ft : Fits X F) {pins : List (Addr × Obj)} {σ : L2.St} {H : Hp} {s : Shared} {μ : Nat → Addr} {fr lv : Sto} {d : D} {v : V} {u : Value} {x : PyData} (I : Inv X pins σ H s) (r : Rel F.z μ H fr lv) (h : Rp F.z μ (fr.length + lv.length) H d v) (ru : RelV v u) (e : pd fr lv pdDepth d = some x) :
    x.canLay0 = true ∧ x.depth ≤ 24 ∧ ∃ as, Reads s.heap u x as := by
  obtain ⟨k1, k2, k3⟩ := pd_dp r _ d v x h e
  rw [← ft.K] at k1
  exact ⟨k2, k3, Dp.reads I x v u k1 ru⟩
theorem ords_of (ft : Fits X F) {pins : List (Addr × Obj)} {σ : L2.St} {H : Hp} {s : Shared} {μ : Nat → Addr} {fr lv : Sto} {dx dy : D} {x y : V} {v u : Value} {p q : PyData} {b : Bool} (I : Inv X pins σ H s) (r : Rel F.z μ H fr lv)
    (px : Rp F.z μ (fr.length + lv.length) H dx x) (py : Rp F.z μ (fr.length + lv.length) H dy y) (rx : RelV x v) (ry : RelV y u) (e1 : pd fr lv pdDepth dx = some p) (e2 : pd fr lv pdDepth dy = some q) (e : ltP p q = some b) : Ords X.A s v u p q b := by
  obtain ⟨a1, a2, as, a3⟩ := data_of ft I r px rx e1
  obtain ⟨b1, b2, bs, b3⟩ := data_of ft I r py ry e2
  have := ft.un
  exact rc_ord 24 p q X.A s v u as bs b a2 a3 b3 a1 b1 (by omega) e
theorem op_lt' (ft : Fits X F) : OpR X (compareOp .Lt) (rP F fun fr lv x y => .of ((cop fr lv .lt x y).map .bl) lv) := fun pins s σ H x y v u Q I rx ry ⟨σ', μ, fr, lv, dx, dy, r, px, py, g⟩ => by
  obtain ⟨b, e, q⟩ := go_bl g r
  have gen : (match pd fr lv pdDepth dx, pd fr lv pdDepth dy with
    | some x, some y => ltP x y
    | _, _ => none) = some b → wpAny (model X.prog X.w) X.A (compareOp .Lt v u) (EP X pins σ Q) X.xe s := fun e => by
    cases e1 : pd fr lv pdDepth dx with
    | none => rw [e1] at e; cases e
    | some p =>
      cases e2 : pd fr lv pdDepth dy with
      | none => rw [e1, e2] at e; cases e
      | some q' =>
        rw [e1, e2] at e
        exact (ords_of ft I r px py rx ry e1 e2 e).1 _ _ _ _ ⟨.bl b, H, I, rfl, q⟩
  cases dx with
  | int i =>
    cases dy with
    | int j =>
      have := rp_int px; subst this
      have := rp_int py; subst this
      obtain ⟨t, rfl⟩ := rx
      obtain ⟨t', rfl⟩ := ry
      have eb : b = decide (i < j) := (Option.some.inj e).symm
      subst eb
      exact lt_int ⟨.bl _, H, I, rfl, q⟩
    | _ => exact gen e
  | _ => cases dy <;> exact gen e
theorem op_gt' : OpR X (compareOp .Gt) (rP F fun fr lv x y => .of ((cop fr lv .gt x y).map .bl) lv) := op_cases fun dx dy => op_of op_gt fun x y H Q ⟨σ, μ, fr, lv, r, px, py, g⟩ => by
  obtain ⟨b, e, q⟩ := go_bl g r
  cases dx <;> cases dy <;> first
    | (cases e; done)
    | (have eb := (Option.some.inj e).symm
       subst eb
       exact ⟨_, _, rp_int px, rp_int py, q⟩)
theorem op_le' (ft : Fits X F) : OpR X (compareOp .LtE) (rP F fun fr lv x y => .of ((cop fr lv .le x y).map .bl) lv) := fun pins s σ H x y v u Q I rx ry ⟨σ', μ, fr, lv, dx, dy, r, px, py, g⟩ => by
  obtain ⟨b, e, q⟩ := go_bl g r
  cases dx with
  | int i =>
    cases dy with
    | int j =>
      have := rp_int px; subst this
      have := rp_int py; subst this
      obtain ⟨t, rfl⟩ := rx
      obtain ⟨t', rfl⟩ := ry
      have eb : b = decide (i ≤ j) := (Option.some.inj e).symm
      subst eb
      exact le_int ⟨.bl _, H, I, rfl, q⟩
    | _ => exact nomatch e
  | tup xs =>
    cases dy with
    | tup ys =>
      have e : (match pd fr lv pdDepth (.tup xs), pd fr lv pdDepth (.tup ys) with
        | some x, some y => (ltP x y).map (· || x.eqv y)
        | _, _ => none) = some b := e
      cases e1 : pd fr lv pdDepth (.tup xs) with
      | none => rw [e1] at e; cases e
      | some p =>
        cases e2 : pd fr lv pdDepth (.tup ys) with
        | none => rw [e1, e2] at e; cases e
        | some q' =>
          rw [e1, e2] at e
          obtain ⟨c, ec, rfl⟩ := Option.map_eq_some_iff.mp e
          exact (ords_of ft I r px py rx ry e1 e2 ec).2.2 _ _ _ _ ⟨.bl _, H, I, rfl, q⟩
    | _ => exact nomatch e
  | _ => cases dy <;> exact nomatch e
theorem op_ge' (ft : Fits X F) : OpR X (compareOp .GtE) (rP F fun fr lv x y => .of ((cop fr lv .ge x y).map .bl) lv) := fun pins s σ H x y v u Q I rx ry ⟨σ', μ, fr, lv, dx, dy, r, px, py, g⟩ => by
  obtain ⟨b, e, q⟩ := go_bl g r
  cases dx with
  | int i =>
    cases dy with
    | int j =>
      have := rp_int px; subst this
      have := rp_int py; subst this
      obtain ⟨t, rfl⟩ := rx
      obtain ⟨t', rfl⟩ := ry
      have eb : b = decide (j ≤ i) := (Option.some.inj e).symm
      subst eb
      exact ge_int ⟨.bl _, H, I, rfl, q⟩
    | _ => exact nomatch e
  | tup xs =>
    cases dy with
    | tup ys =>
      have e : (match pd fr lv pdDepth (.tup xs), pd fr lv pdDepth (.tup ys) with
        | some x, some y => (ltP x y).map (!·)
        | _, _ => none) = some b := e
      cases e1 : pd fr lv pdDepth (.tup xs) with
      | none => rw [e1] at e; cases e
      | some p =>
        cases e2 : pd fr lv pdDepth (.tup ys) with
        | none => rw [e1, e2] at e; cases e
        | some q' =>
          rw [e1, e2] at e
          obtain ⟨c, ec, rfl⟩ := Option.map_eq_some_iff.mp e
          exact (ords_of ft I r px py rx ry e1 e2 ec).2.1 _ _ _ _ ⟨.bl _, H, I, rfl, q⟩
    | _ => exact nomatch e
  | _ => cases dy <;> exact nomatch e
/-! ### is -/
theorem is_at {Z : Zx} {μ : Nat → Addr} {n : Nat} {H : Hp} {dx dy : D} {x y : V} {v u : Value} {b : Bool} (px : Rp Z μ n H dx x) (py : Rp Z μ n H dy y) (rx : RelV x v) (ry : RelV y u) (e : isD dx dy = some b) : plainIs v u = true ∧ (v == u) = b := by
  have sh : (dx = .non ∧ v = .none) ∨ (∃ c, dx = .bl c ∧ v = .bool c) ∨ ((∀ c, dx ≠ .bl c) ∧ dx ≠ .non ∧ ((∃ i t, v = .int i t) ∨ (∃ z t, v = .str z t) ∨ ∃ a, v = .ref a)) := by
    cases dx with
    | non =>
      simp only [Rp] at px
      subst px
      exact .inl ⟨rfl, rx⟩
    | bl c =>
      have := rp_bl px
      subst this
      exact .inr (.inl ⟨c, rfl, rx⟩)
    | int i =>
      have := rp_int px
      subst this
      obtain ⟨t, rfl⟩ := rx
      exact .inr (.inr ⟨(fun c z => nomatch z), (fun z => nomatch z), .inl ⟨i, t, rfl⟩⟩)
    | str i =>
      have := rp_str px
      subst this
      obtain ⟨t, rfl⟩ := rx
      exact .inr (.inr ⟨(fun c z => nomatch z), (fun z => nomatch z), .inr (.inl ⟨i, t, rfl⟩)⟩)
    | tup xs =>
      obtain ⟨a, vs, rfl, _⟩ := rp_tup px
      exact .inr (.inr ⟨(fun c z => nomatch z), (fun z => nomatch z), .inr (.inr ⟨a, rx⟩)⟩)
    | ref l =>
      simp only [Rp] at px
      obtain ⟨_, rfl⟩ := px
      exact .inr (.inr ⟨(fun c z => nomatch z), (fun z => nomatch z), .inr (.inr ⟨_, rx⟩)⟩)
  cases dy with
  | non =>
    have hy : y = .non := by simpa only [Rp] using py
    subst hy
    obtain rfl : u = Value.none := ry
    rcases sh with ⟨rfl, rfl⟩ | ⟨c, rfl, rfl⟩ | ⟨h1, h2, h3⟩
    · exact ⟨rfl, Option.some.inj e⟩
    · exact ⟨rfl, Option.some.inj e⟩
    · have eb : b = false := by
        cases dx <;> first
          | exact absurd rfl h2
          | exact (Option.some.inj e).symm
      subst eb
      rcases h3 with ⟨i, t, rfl⟩ | ⟨i, t, rfl⟩ | ⟨a, rfl⟩ <;> exact ⟨rfl, rfl⟩
  | bl k =>
    have := rp_bl py
    subst this
    obtain rfl : u = Value.bool k := ry
    rcases sh with ⟨rfl, rfl⟩ | ⟨c, rfl, rfl⟩ | ⟨h1, h2, h3⟩
    · exact ⟨rfl, Option.some.inj e⟩
    · have eb : (c == k) = b := Option.some.inj e
      subst eb
      refine ⟨rfl, ?_⟩
      cases c <;> cases k <;> rfl
    · have eb : b = false := by
        cases dx <;> first
          | exact absurd rfl (h1 _)
          | exact (Option.some.inj e).symm
      subst eb
      rcases h3 with ⟨i, t, rfl⟩ | ⟨i, t, rfl⟩ | ⟨a, rfl⟩ <;> exact ⟨rfl, rfl⟩
  | _ => cases dx <;> exact nomatch e
theorem op_is' : OpR X (compareOp .Is) (rP F fun fr lv x y => .of ((cop fr lv .is x y).map .bl) lv) := fun pins s σ H x y v u Q I rx ry ⟨σ', μ, fr, lv, dx, dy, r, px, py, g⟩ => by
  obtain ⟨b, e, q⟩ := go_bl g r
  obtain ⟨h1, h2⟩ := is_at px py rx ry e
  exact wpAny_is_plain h1 (by rw [h2]; exact ⟨.bl b, H, I, rfl, q⟩)
theorem op_isnot' : OpR X (compareOp .IsNot) (rP F fun fr lv x y => .of ((cop fr lv .isnot x y).map .bl) lv) := fun pins s σ H x y v u Q I rx ry ⟨σ', μ, fr, lv, dx, dy, r, px, py, g⟩ => by
  obtain ⟨b, e, q⟩ := go_bl g r
  obtain ⟨b', e', rfl⟩ := Option.map_eq_some_iff.mp e
  obtain ⟨h1, h2⟩ := is_at px py rx ry e'
  exact wpAny_isNot_plain h1 (by rw [h2]; exact ⟨.bl _, H, I, rfl, q⟩)
end
end Sv
end -- Sem5
section -- Dk
set_option Elab.async false
set_option linter.all false
set_option maxRecDepth 100000
set_option maxHeartbeats 2000000
/-! # Keys of dicts: ints, texts, tuples of such at any depth -/
namespace Sv
open PySem PySem.Spec PyProof.Rows L2

mutual
/-- a key in the model's heap -/
def NK (h : Heap) : D → Value → Prop
  | .int i, v => ∃ t, v = .int i t
  | .str x, v => ∃ t, v = .str x t
  | .tup xs, v => ∃ a o items n, v = .ref a ∧ h.get? a = some o ∧ o.cls = .type "tuple" ∧ o.data = .seq items n ∧ NKs h xs items.toList
  | _, _ => False
def NKs (h : Heap) : List D → List Value → Prop
  | [], vs => vs = []
  | d :: ds, vs => ∃ v r, vs = v :: r ∧ NK h d v ∧ NKs h ds r
end
mutual
def toPD : D → PyData
  | .non => .none
  | .bl b => .bool b
  | .int i => .int i
  | .str x => .str x
  | .tup xs => .tuple (toPDs xs)
  | .ref _ => .none
def toPDs : List D → List PyData
  | [] => []
  | x :: xs => toPD x :: toPDs xs
end
mutual
def drawsK : D → Nat
  | .tup xs => drawsKs xs + 1
  | _ => 1
def drawsKs : List D → Nat
  | [] => 0
  | x :: xs => drawsK x + drawsKs xs
end
theorem key_tup {n : Nat} {xs : List D} : D.key (n + 1) (.tup xs) = true ↔ ∀ x ∈ xs, D.key n x = true := by
  simp only [D.key, List.all_eq_true]
theorem key_succ : ∀ {n : Nat} {d : D}, D.key n d = true → D.key (n + 1) d = true
  | _, .int _, _ => by simp [D.key]
  | 0, .str s, h => by simpa [D.key] using h
  | n + 1, .str s, h => by simpa [D.key] using h
  | 0, .tup xs, h => by simp [D.key] at h
  | n + 1, .tup xs, h => key_tup.mpr fun x hx => key_succ (key_tup.mp h x hx)
  | 0, .non, h => by simp [D.key] at h
  | 0, .bl _, h => by simp [D.key] at h
  | 0, .ref _, h => by simp [D.key] at h
  | n + 1, .non, h => by simp [D.key] at h
  | n + 1, .bl _, h => by simp [D.key] at h
  | n + 1, .ref _, h => by simp [D.key] at h
/-- a key read as data -/
theorem nk_reads {h : Heap} : ∀ (n : Nat) (d : D) (v : Value), D.key n d = true → NK h d v → (∃ as, Reads h v (toPD d) as) ∧ (toPD d).canLay0 = true ∧ (toPD d).depth ≤ n := by
  have lists : ∀ (n : Nat), (∀ (d : D) (v : Value), D.key n d = true → NK h d v → (∃ as, Reads h v (toPD d) as) ∧ (toPD d).canLay0 = true ∧ (toPD d).depth ≤ n) →
      ∀ (ds : List D) (vs : List Value), (∀ x ∈ ds, D.key n x = true) → NKs h ds vs → (∃ as, ReadsAll h vs (toPDs ds) as) ∧ PyData.canLayAll0 (toPDs ds) = true ∧ PyData.depthAll (toPDs ds) ≤ n := by
    intro n ih ds
    induction ds with
    | nil =>
      intro vs _ hk
      simp only [NKs] at hk
      subst hk
      exact ⟨⟨_, .nil⟩, rfl, Nat.zero_le _⟩
    | cons d ds ihl =>
      intro vs hd hk
      simp only [NKs] at hk
      obtain ⟨v, r, rfl, h1, h2⟩ := hk
      obtain ⟨⟨as, a1⟩, a2, a3⟩ := ih d v (hd d List.mem_cons_self) h1
      obtain ⟨⟨bs, b1⟩, b2, b3⟩ := ihl r (fun x hx => hd x (List.mem_cons_of_mem _ hx)) h2
      refine ⟨⟨_, .cons a1 b1⟩, ?_, ?_⟩
      · simp only [toPDs, PyData.canLayAll0, a2, b2, Bool.and_self]
      · simp only [toPDs, PyData.depthAll]
        omega
  intro n
  induction n with
  | zero =>
    intro d v hd hk
    cases d with
    | int i =>
      simp only [NK] at hk
      obtain ⟨t, rfl⟩ := hk
      exact ⟨⟨_, .int i t⟩, rfl, Nat.zero_le _⟩
    | str x =>
      simp only [NK] at hk
      obtain ⟨t, rfl⟩ := hk
      exact ⟨⟨_, .str x t⟩, by simp only [D.key] at hd; exact hd, Nat.zero_le _⟩
    | _ => simp [D.key] at hd
  | succ n ih =>
    intro d v hd hk
    cases d with
    | int i =>
      simp only [NK] at hk
      obtain ⟨t, rfl⟩ := hk
      exact ⟨⟨_, .int i t⟩, rfl, Nat.zero_le _⟩
    | str x =>
      simp only [NK] at hk
      obtain ⟨t, rfl⟩ := hk
      exact ⟨⟨_, .str x t⟩, by simp only [D.key] at hd; exact hd, Nat.zero_le _⟩
    | tup xs =>
      simp only [NK] at hk
      obtain ⟨a, o, items, m, rfl, h1, h2, h3, h4⟩ := hk
      obtain ⟨⟨as, a1⟩, a2, a3⟩ := lists n ih xs items.toList (key_tup.mp hd) h4
      refine ⟨⟨_, .tuple h1 h2 h3 a1⟩, ?_, ?_⟩
      · simp only [toPD, PyData.canLay0]
        exact a2
      · simp only [toPD, PyData.depth]
        omega
    | _ => simp [D.key] at hd
/-- equal as data means equal -/
theorem eqv_key : ∀ (n : Nat) (d e : D), D.key n d = true → D.key n e = true → (toPD d).eqv (toPD e) = decide (d = e) := by
  have lists : ∀ (n : Nat), (∀ (d e : D), D.key n d = true → D.key n e = true → (toPD d).eqv (toPD e) = decide (d = e)) →
      ∀ (xs ys : List D), (∀ x ∈ xs, D.key n x = true) → (∀ y ∈ ys, D.key n y = true) → PyData.eqvAll (toPDs xs) (toPDs ys) = decide (xs = ys) := by
    intro n ih xs
    induction xs with
    | nil =>
      intro ys _ _
      cases ys <;> simp [toPDs, PyData.eqvAll]
    | cons x xs ihl =>
      intro ys hx hy
      cases ys with
      | nil => simp [toPDs, PyData.eqvAll]
      | cons y ys =>
        simp only [toPDs, PyData.eqvAll]
        rw [ih x y (hx x List.mem_cons_self) (hy y List.mem_cons_self), ihl ys (fun z hz => hx z (List.mem_cons_of_mem _ hz)) fun z hz => hy z (List.mem_cons_of_mem _ hz)]
        rw [Bool.eq_iff_iff]
        simp
  have scal : ∀ (n : Nat) (d e : D), D.key n d = true → D.key n e = true → d.isTup = false ∨ e.isTup = false → (toPD d).eqv (toPD e) = decide (d = e) := by
    intro n d e hd he hs
    cases d <;> cases e <;> first
      | (cases n <;> simp [D.key] at hd; done)
      | (cases n <;> simp [D.key] at he; done)
      | (simp [toPD, PyData.eqv]; done)
      | (simp only [toPD, PyData.eqv]
         rw [Bool.eq_iff_iff]
         simp
         done)
      | (exfalso
         rcases hs with hs | hs <;> simp [D.isTup] at hs)
  intro n
  induction n with
  | zero =>
    intro d e hd he
    refine scal 0 d e hd he (.inl ?_)
    cases d with
    | tup xs => simp [D.key] at hd
    | _ => rfl
  | succ n ih =>
    intro d e hd he
    cases d with
    | tup xs =>
      cases e with
      | tup ys =>
        simp only [toPD, PyData.eqv]
        rw [lists n ih xs ys (key_tup.mp hd) (key_tup.mp he)]
        rw [Bool.eq_iff_iff]
        simp
      | _ => exact scal (n + 1) _ _ hd he (.inr rfl)
    | _ => exact scal (n + 1) _ _ hd he (.inl rfl)
section
variable {prog : Program} {w : World} {A : Around} {E : Value → Shared → Prop} {s : Shared}
theorem nk_eq {n : Nat} {d e : D} {v u : Value} {Q : Bool → Shared → Prop} (hd : D.key n d = true) (he : D.key n e = true) (k1 : NK s.heap d v) (k2 : NK s.heap e u) (hu : A.units + n < cLine) (h : Q (decide (d = e)) s) : wpAny (model prog w) A (eqBool v u) Q E s := by
  obtain ⟨⟨as, a1⟩, a2, a3⟩ := nk_reads n d v hd k1
  obtain ⟨⟨bs, b1⟩, b2, b3⟩ := nk_reads n e u he k2
  exact SeqAt.eqAt_reads _ _ A s v u as bs a1 b1 a2 b2 (by omega) prog w E Q (by rw [eqv_key n d e hd he]; exact h)
/-- the hash of an int, a text -/
theorem nk_hash : ∀ (n : Nat) (d : D) (A : Around) (s : Shared) (v : Value) (Q : Int → Shared → Prop), D.key n d = true → NK s.heap d v → A.units + n < cLine → Q (hashK w d) { s with toks := s.toks + drawsK d } → wpAny (model prog w) A (pyHash v) Q E s := by
  have scal : ∀ (n : Nat) (d : D) (A : Around) (s : Shared) (v : Value) (Q : Int → Shared → Prop), d.isTup = false → D.key n d = true → NK s.heap d v → Q (hashK w d) { s with toks := s.toks + drawsK d } → wpAny (model prog w) A (pyHash v) Q E s := by
    intro n d A s v Q ht hd hk h
    cases d with
    | int i =>
      simp only [NK] at hk
      obtain ⟨t, rfl⟩ := hk
      exact wpAny_pyHash_int h
    | str x =>
      simp only [NK] at hk
      obtain ⟨t, rfl⟩ := hk
      exact wpAny_pyHash_str h
    | tup xs => cases ht
    | _ => cases n <;> simp [D.key] at hd
  intro n
  induction n with
  | zero =>
    intro d A s v Q hd hk hu h
    refine scal 0 d A s v Q ?_ hd hk h
    cases d with
    | tup xs => simp [D.key] at hd
    | _ => rfl
  | succ n ih =>
    intro d A s v Q hd hk hu h
    cases d with
    | tup xs =>
      simp only [NK] at hk
      obtain ⟨a, o, items, m, rfl, h1, h2, h3, h4⟩ := hk
      have hT : s.TypeIs (.ref a) "tuple" := ⟨o, h1, h2⟩
      unfold pyHash
      first | unfold pyHashByItsType | skip
      first | refine wpAny_bind (wpAny_cRoomFor_or (.inr (show A.units < cLine by omega)) ?_) | skip
      refine wpAny_bind (wpAny_specialOf hT PySem.F.slot_tuple_hash.lookup ?_)
      have ne : ¬ (some (Value.builtin "tuple.__hash__") == some Value.none) = true := by
        rw [beq_builtin_none]
        exact Bool.false_ne_true
      show wpAny _ _ (if (some (Value.builtin "tuple.__hash__") == some Value.none) = true then _ else _) Q E s
      rw [if_neg ne]
      refine wpAny_bind (wpAny_specialOf hT PySem.F.slot_tuple_hash.lookup ?_)
      show wpAny _ _ (callSpecialIfBoundUnlessNone? (.ref a) "__hash__" _ >>= _) Q E s
      refine wpAny_bind (wpAny_callSpecialIfBoundUnlessNone?_slot hT PySem.F.slot_tuple_hash (wpAny_call_entry PySem.F.slot_tuple_hash hT PySem.F.entry_tuple_hash ?_ (PySem.F.args_tuple_hash_1 _)))
      show wpAny _ _ (Builtin.Tuple.tupleItemsOf (.ref a) >>= _) _ _ s
      refine wpAny_bind (wpAny_tupleItemsOf h1 h3 ?_)
      refine wpAny_bind ?_
      rw [← Array.forIn_toList]
      have hx := key_tup.mp hd
      refine wpAny_forIn_list _ (fun left (b : Array Int) s' => ∃ p q, xs = p ++ q ∧ NKs s.heap q left ∧ b.toList = hashKs w p ∧ s' = { s with toks := s.toks + drawsKs p }) _ ?_ ?_ _ _ ⟨[], xs, rfl, h4, rfl, rfl⟩
      · rintro x left b s' ⟨p, q, e1, e2, e3, rfl⟩
        cases q with
        | nil => simp [NKs] at e2
        | cons y q =>
          simp only [NKs] at e2
          obtain ⟨x', r, e4, e5, e6⟩ := e2
          injection e4 with e4 e7
          subst e4 e7
          have hy : D.key n y = true := hx y (by rw [e1]; exact List.mem_append_right _ List.mem_cons_self)
          have snoc : ∀ (p : List D), hashKs w (p ++ [y]) = hashKs w p ++ [hashK w y] ∧ drawsKs (p ++ [y]) = drawsKs p + drawsK y := by
            intro p
            induction p with
            | nil => exact ⟨by simp [hashKs], by simp [drawsKs]⟩
            | cons z p ihp => exact ⟨by simp [hashKs, ihp.1], by simp [drawsKs, ihp.2]; omega⟩
          have hin : ∀ B : Around, B.units = A.units + 1 → B.units + n < cLine := fun B hB => by omega
          refine wpAny_bind (ih y _ _ x _ hy e5 (hin _ rfl) ?_)
          have fin : ∃ p' q', xs = p' ++ q' ∧ NKs s.heap q' left ∧ (b.push (hashK w y)).toList = hashKs w p' ∧ ({ s with toks := s.toks + drawsKs p + drawsK y } : Shared) = { s with toks := s.toks + drawsKs p' } :=
            ⟨p ++ [y], q, by rw [e1]; simp, e6, by rw [(snoc p).1, ← e3]; simp, by rw [(snoc p).2, Nat.add_assoc]⟩
          first
            | exact wpAny_pure fin
            | exact wpAny_bind (wpAny_pure (wpAny_pure fin))
      · rintro b s' ⟨p, q, e1, e2, e3, rfl⟩
        have eq : q = [] := by
          cases q with
          | nil => rfl
          | cons y q =>
            simp only [NKs] at e2
            obtain ⟨x', r, e4, _⟩ := e2
            cases e4
        subst eq
        rw [List.append_nil] at e1
        subst e1
        have h' : Q (reduceHash (Builtin.Tuple.tupleHashOf (hashKs w xs))) { s with toks := s.toks + (drawsKs xs + 1) } := by
          simpa only [hashK, drawsK] using h
        show wpAny _ _ (retInt (Builtin.Tuple.tupleHashOf b.toList)) _ _ _
        rw [e3]
        refine wpAny_ret_mkInt ?_
        show wpAny _ _ (if (decide (-(2 : Int) ^ 63 ≤ Builtin.Tuple.tupleHashOf (hashKs w xs)) && decide (Builtin.Tuple.tupleHashOf (hashKs w xs) < 2 ^ 63)) = true then _ else _) Q E _
        unfold reduceHash at h'
        by_cases hr : (decide (-(2 : Int) ^ 63 ≤ Builtin.Tuple.tupleHashOf (hashKs w xs)) && decide (Builtin.Tuple.tupleHashOf (hashKs w xs) < 2 ^ 63)) = true
        · rw [if_pos hr] at h' ⊢
          exact wpAny_pure (by simpa [Nat.add_assoc] using h')
        · rw [if_neg hr] at h' ⊢
          exact wpAny_bind (wpAny_rule (wpAny_pure (by simpa [Nat.add_assoc] using h')))
    | _ => exact scal (n + 1) _ A s v Q rfl hd hk h
theorem nk_quiet : ∀ (n m : Nat) (d : D) (v : Value) (Q : Bool → Shared → Prop), n ≤ m → D.key n d = true → NK s.heap d v → Q true s → wpAny (model prog w) A (eqIsQuiet m v) Q E s := by
  have scal : ∀ (n m : Nat) (d : D) (v : Value) (Q : Bool → Shared → Prop), d.isTup = false → D.key n d = true → NK s.heap d v → Q true s → wpAny (model prog w) A (eqIsQuiet m v) Q E s := by
    intro n m d v Q ht hd hk h
    cases d with
    | int i =>
      simp only [NK] at hk
      obtain ⟨t, rfl⟩ := hk
      rw [eqIsQuiet_byValue m (v := .int i t) rfl]
      exact wpAny_pure h
    | str x =>
      simp only [NK] at hk
      obtain ⟨t, rfl⟩ := hk
      rw [eqIsQuiet_byValue m (v := .str x t) rfl]
      exact wpAny_pure h
    | tup xs => cases ht
    | _ => cases n <;> simp [D.key] at hd
  intro n
  induction n with
  | zero =>
    intro m d v Q _ hd hk h
    refine scal 0 m d v Q ?_ hd hk h
    cases d with
    | tup xs => simp [D.key] at hd
    | _ => rfl
  | succ n ih =>
    intro m d v Q hm hd hk h
    cases d with
    | tup xs =>
      simp only [NK] at hk
      obtain ⟨a, o, items, k, rfl, h1, h2, h3, h4⟩ := hk
      have hT : s.TypeIs (.ref a) "tuple" := ⟨o, h1, h2⟩
      obtain ⟨m, rfl⟩ : ∃ j, m = j + 1 := ⟨m - 1, by omega⟩
      unfold eqIsQuiet
      refine wpAny_bind (wpAny_specialOf hT PySem.F.slot_tuple_eq.lookup ?_)
      show wpAny _ _ (isInstance (.ref a) (.type "tuple") >>= _) _ _ s
      refine wpAny_bind (wpAny_isInstance hT isSubtype_tuple_tuple ?_)
      simp only [Bool.not_true, Bool.false_eq_true, if_false]
      refine wpAny_bind (wpAny_seqItems h1 h3 ?_)
      refine wpAny_bind ?_
      show wpAny _ _ (forIn items _ _) _ _ s
      rw [← Array.forIn_toList]
      have hx := key_tup.mp hd
      refine wpAny_forIn_list _ (fun left r s' => r.1 = none ∧ s' = s ∧ ∃ q, (∀ y ∈ q, D.key n y = true) ∧ NKs s.heap q left) _ ?_ ?_ _ _ ⟨rfl, rfl, xs, hx, h4⟩
      · rintro x left r s' ⟨hr, rfl, q, hq, hk⟩
        cases q with
        | nil => simp [NKs] at hk
        | cons y q =>
          simp only [NKs] at hk
          obtain ⟨x', r', e4, e5, e6⟩ := hk
          injection e4 with e4 e7
          subst e4 e7
          refine wpAny_bind (ih m y x _ (by omega) (hq y List.mem_cons_self) e5 ?_)
          simp only [Bool.not_true, Bool.false_eq_true, if_false]
          exact wpAny_pure ⟨rfl, rfl, q, fun z hz => hq z (List.mem_cons_of_mem _ hz), e6⟩
      · rintro ⟨r1, r2⟩ s' ⟨hr, rfl, _⟩
        simp only at hr
        subst hr
        exact wpAny_pure h
    | _ => exact scal (n + 1) m _ v Q rfl hd hk h
end
mutual
theorem NK.inj {h : Heap} : ∀ {d e : D} {v : Value}, NK h d v → NK h e v → d = e
  | .int i, e, v, h1, h2 => by
    simp only [NK] at h1
    obtain ⟨t, rfl⟩ := h1
    cases e <;> simp [NK] at h2
    rw [h2]
  | .str x, e, v, h1, h2 => by
    simp only [NK] at h1
    obtain ⟨t, rfl⟩ := h1
    cases e <;> simp [NK] at h2
    rw [h2]
  | .tup xs, e, v, h1, h2 => by
    simp only [NK] at h1
    obtain ⟨a, o, items, m, rfl, a1, a2, a3, a4⟩ := h1
    cases e with
    | tup ys =>
      simp only [NK] at h2
      obtain ⟨b, o', items', m', e1, b1, b2, b3, b4⟩ := h2
      injection e1 with e1
      subst e1
      rw [a1] at b1
      cases b1
      rw [a3] at b3
      injection b3 with b5 _
      subst b5
      rw [NKs.inj a4 b4]
    | _ => simp [NK] at h2
  | .non, _, _, h1, _ => by simp [NK] at h1
  | .bl _, _, _, h1, _ => by simp [NK] at h1
  | .ref _, _, _, h1, _ => by simp [NK] at h1
theorem NKs.inj {h : Heap} : ∀ {ds es : List D} {vs : List Value}, NKs h ds vs → NKs h es vs → ds = es
  | [], es, vs, h1, h2 => by
    simp only [NKs] at h1
    subst h1
    cases es with
    | nil => rfl
    | cons e es =>
      simp only [NKs] at h2
      obtain ⟨v, r, h3, _⟩ := h2
      cases h3
  | d :: ds, es, vs, h1, h2 => by
    simp only [NKs] at h1
    obtain ⟨v, r, rfl, h3, h4⟩ := h1
    cases es with
    | nil => simp [NKs] at h2
    | cons e es =>
      simp only [NKs] at h2
      obtain ⟨v', r', h5, h6, h7⟩ := h2
      injection h5 with h5 h8
      subst h5 h8
      rw [NK.inj h3 h6, NKs.inj h4 h7]
end
mutual
theorem NK.keep {h h' : Heap} (k : ∀ b o, h.get? b = some o → o.cls = .type "tuple" → (∃ i n, o.data = .seq i n) → h'.get? b = some o) : ∀ {d : D} {v : Value}, NK h d v → NK h' d v
  | .int _, _, h1 => by simpa only [NK] using h1
  | .str _, _, h1 => by simpa only [NK] using h1
  | .tup xs, _, h1 => by
    simp only [NK] at h1 ⊢
    obtain ⟨a, o, items, m, rfl, a1, a2, a3, a4⟩ := h1
    exact ⟨a, o, items, m, rfl, k a o a1 a2 ⟨_, _, a3⟩, a2, a3, NKs.keep k a4⟩
  | .non, _, h1 => by simp [NK] at h1
  | .bl _, _, h1 => by simp [NK] at h1
  | .ref _, _, h1 => by simp [NK] at h1
theorem NKs.keep {h h' : Heap} (k : ∀ b o, h.get? b = some o → o.cls = .type "tuple" → (∃ i n, o.data = .seq i n) → h'.get? b = some o) : ∀ {ds : List D} {vs : List Value}, NKs h ds vs → NKs h' ds vs
  | [], _, h1 => by simpa only [NKs] using h1
  | d :: ds, _, h1 => by
    simp only [NKs] at h1 ⊢
    obtain ⟨v, r, rfl, h3, h4⟩ := h1
    exact ⟨v, r, rfl, NK.keep k h3, NKs.keep k h4⟩
end
/-- tuples as keys -/
def nestKind (prog : Program) (w : World) : HeapKind prog w D where
  is := fun h d a => d.isTup = true ∧ D.key keyDepth d = true ∧ NK h d (.ref a)
  hash := hashK w
  draws := drawsK
  room := fun A => A.units + keyDepth < cLine
  inj := fun h1 h2 => h1.2.2.inj h2.2.2
  keeps := fun {h h' k a d o es ep} h1 ho hd hs => ⟨h1.1, h1.2.1, h1.2.2.keep fun b o' e1 e2 ⟨i, n, e3⟩ => by
    have hne : b ≠ d := fun z => by
      subst z
      rw [ho] at e1
      cases e1
      rw [hd] at e3
      cases e3
    exact (hs.2 b hne).trans e1⟩
  pyHash := fun hu hk h => nk_hash keyDepth _ _ _ _ _ hk.2.1 hk.2.2 hu h
  eqBool := fun hu hx hy h => nk_eq hx.2.1 hy.2.1 hx.2.2 hy.2.2 hu h
  quiet := fun hk h => nk_quiet keyDepth 8 _ _ _ (by decide) hk.2.1 hk.2.2 h
end Sv
end -- Dk
section -- Dfind
set_option Elab.async false
set_option linter.all false
set_option maxRecDepth 100000
set_option maxHeartbeats 2000000
/-! # A key is looked for, among keys of all kinds -/
namespace Sv
open PySem PySem.Spec PyProof.Rows L2

/-- a key as it stands -/
def KI (h : Heap) (d : D) (v : Value) : Prop := D.key keyDepth d = true ∧ NK h d v
abbrev Ent := D × Value × Value
def entO (w : World) (x : Ent) : DictEntry := ⟨hashK w x.1, x.2.1, x.2.2⟩
/-- a dict's entries -/
structure DictX (w : World) (h : Heap) (a : Addr) (xs : List Ent) : Prop where
  at_ : ∃ ep, h.get? a = some ({ cls := .type "dict", data := .dict (xs.map (entO w)).toArray ep } : Obj)
  ki : ∀ x ∈ xs, KI h x.1 x.2.1
  nd : (xs.map (·.1)).Nodup
theorem KI.inj {h : Heap} {d e : D} {v : Value} (a : KI h d v) (b : KI h e v) : d = e := a.2.inj b.2
theorem KI.keep {h h' : Heap} {d : D} {v : Value} (a : KI h d v) (k : ∀ b o, h.get? b = some o → o.cls = .type "tuple" → (∃ i n, o.data = .seq i n) → h'.get? b = some o) : KI h' d v := ⟨a.1, a.2.keep k⟩
theorem KI.same {h h' : Heap} {a : Addr} {d : D} {v : Value} {o : Obj} {es : Array DictEntry} {ep : Nat} (x : KI h d v) (ho : h.get? a = some o) (hd : o.data = .dict es ep) (hs : Heap.SameBut a h h') : KI h' d v := x.keep fun b o' e1 e2 ⟨i, n, e3⟩ => by
  have hne : b ≠ a := fun z => by
    subst z
    rw [ho] at e1
    cases e1
    rw [hd] at e3
    cases e3
  exact (hs.2 b hne).trans e1
theorem KI.shape {h : Heap} {d : D} {v : Value} (x : KI h d v) : (∃ i t, d = .int i ∧ v = .int i t) ∨ (∃ z t, d = .str z ∧ v = .str z t) ∨ ∃ xs a, d = .tup xs ∧ v = .ref a := by
  obtain ⟨x1, x2⟩ := x
  cases d with
  | int i => simp only [NK] at x2; obtain ⟨t, rfl⟩ := x2; exact .inl ⟨i, t, rfl, rfl⟩
  | str z => simp only [NK] at x2; obtain ⟨t, rfl⟩ := x2; exact .inr (.inl ⟨z, t, rfl, rfl⟩)
  | tup xs => simp only [NK] at x2; obtain ⟨a, o, items, n, rfl, _⟩ := x2; exact .inr (.inr ⟨xs, a, rfl, rfl⟩)
  | _ => simp [NK] at x2
/-- where a key stands -/
def placeX (xs : List Ent) (k : D) : Option Nat := xs.findIdx? fun x => decide (x.1 = k)
theorem place_some {xs : List Ent} {k : D} {j : Nat} {x : Ent} (nd : (xs.map (·.1)).Nodup) (h : xs[j]? = some x) (e : x.1 = k) : placeX xs k = some j := by
  unfold placeX
  rw [List.findIdx?_eq_some_iff_getElem]
  obtain ⟨hj, ej⟩ := List.getElem?_eq_some_iff.mp h
  refine ⟨hj, by rw [ej]; exact decide_eq_true e, fun i hi => ?_⟩
  intro c
  have c := of_decide_eq_true c
  have e1 : (xs.map (·.1))[i]? = some k := by rw [List.getElem?_map, List.getElem?_eq_getElem (by omega)]; exact congrArg some c
  have e2 : (xs.map (·.1))[j]? = some k := by rw [List.getElem?_map, h]; exact congrArg some e
  have := (List.getElem?_inj (by simpa using (show i < xs.length by omega)) nd).mp (e1.trans e2.symm)
  omega
theorem place_none {xs : List Ent} {k : D} (h : ∀ (j : Nat) (x : Ent), xs[j]? = some x → x.1 ≠ k) : placeX xs k = none := by
  unfold placeX
  rw [List.findIdx?_eq_none_iff]
  intro x hx
  obtain ⟨j, hj⟩ := List.mem_iff_getElem?.mp hx
  exact decide_eq_false (h j x hj)
theorem place_at {xs : List Ent} {k : D} {j : Nat} (h : placeX xs k = some j) : ∃ x, xs[j]? = some x ∧ x.1 = k := by
  unfold placeX at h
  obtain ⟨hj, e, _⟩ := List.findIdx?_eq_some_iff_getElem.mp h
  exact ⟨xs[j], List.getElem?_eq_getElem hj, of_decide_eq_true e⟩
section
variable {prog : Program} {w : World} {A : Around} {E : Value → Shared → Prop} {s : Shared}
theorem ent_get (xs : List Ent) (j : Nat) : ((xs.map (entO w)).toArray)[j]? = (xs[j]?).map (entO w) := by simp
/-- the places of that hash, each with its key -/
theorem places_ok {xs : List Ent} {k : D} : (∀ j ∈ placesWithHash (xs.map (entO w)).toArray.size (fun i => ((xs.map (entO w)).toArray)[i]?.map (·.hash)) (hashK w k), ∃ x, xs[j]? = some x ∧ hashK w x.1 = hashK w k) ∧
    ∀ (j : Nat) (x : Ent), xs[j]? = some x → x.1 = k → j ∈ placesWithHash (xs.map (entO w)).toArray.size (fun i => ((xs.map (entO w)).toArray)[i]?.map (·.hash)) (hashK w k) := by
  unfold placesWithHash
  refine ⟨fun j hj => ?_, fun j x hx e => ?_⟩
  · obtain ⟨h1, h2⟩ := List.mem_filter.mp hj
    have h2 : ((((xs.map (entO w)).toArray)[j]?).map (·.hash) == some (hashK w k)) = true := h2
    rw [ent_get] at h2
    cases q : xs[j]? with
    | none => rw [q] at h2; simp at h2
    | some x =>
      rw [q] at h2
      refine ⟨x, rfl, ?_⟩
      simpa [entO] using h2
  · refine List.mem_filter.mpr ⟨?_, ?_⟩
    · have := (List.getElem?_eq_some_iff.mp hx).1
      simpa using this
    · show ((((xs.map (entO w)).toArray)[j]?).map (·.hash) == some (hashK w k)) = true
      rw [ent_get, hx, ← e]
      simp [entO]
/-- keys by value alone -/
theorem walk_plain {d : Addr} {o : Obj} {ep : Nat} {xs : List Ent} {k : D} {key : Value} {Q : Option Nat → Shared → Prop} (hu : A.units + keyDepth < cLine) (hk : KI s.heap k key) (ho : s.heap.get? d = some o) (hd : o.data = .dict (xs.map (entO w)).toArray ep)
    (ki : ∀ x ∈ xs, KI s.heap x.1 x.2.1) (nd : (xs.map (·.1)).Nodup) (h : Q (placeX xs k) s) :
    wpAny (model prog w) A (dictWalkPlain d key (hashK w k) (xs.map (entO w)).toArray (placesWithHash (xs.map (entO w)).toArray.size (fun i => ((xs.map (entO w)).toArray)[i]?.map (·.hash)) (hashK w k))) Q E s := by
  obtain ⟨p1, p2⟩ := places_ok (w := w) (xs := xs) (k := k)
  unfold dictWalkPlain
  generalize placesWithHash (xs.map (entO w)).toArray.size (fun i => ((xs.map (entO w)).toArray)[i]?.map (·.hash)) (hashK w k) = pl at p1 p2
  refine wpAny_bind ?_
  refine wpAny_forIn_list _ (fun left r s' => s' = s ∧ r = (none, ()) ∧ ∃ don, pl = don ++ left ∧ ∀ j ∈ don, ∀ x, xs[j]? = some x → x.1 ≠ k) _ ?_ ?_ _ _ ⟨rfl, rfl, [], rfl, fun j hj => (by cases hj)⟩
  · rintro j left r s' ⟨rfl, rfl, don, e1, e2⟩
    obtain ⟨x, hx, hh⟩ := p1 j (by rw [e1]; exact List.mem_append_right _ List.mem_cons_self)
    rw [ent_get, hx]
    dsimp only [Option.map_some]
    have hb : ((entO w x).hash == hashK w k) = true := by
      show (hashK w x.1 == hashK w k) = true
      rw [hh]
      simp
    rw [if_pos hb]
    refine wpAny_bind (wpAny_dictEpoch ho hd (wpAny_bind (nk_eq (ki x (List.mem_of_getElem? hx)).1 hk.1 (ki x (List.mem_of_getElem? hx)).2 hk.2 hu (wpAny_bind (wpAny_dictEpoch ho hd ?_)))))
    have hep : ¬ (ep != ep) = true := by simp
    show wpAny _ _ (if (ep != ep) = true then _ else _) _ E _
    rw [if_neg hep]
    by_cases c : x.1 = k
    · rw [decide_eq_true c]
      rw [place_some nd hx c] at h
      first | rw [if_pos rfl] | skip
      first | refine wpAny_bind (wpAny_pure ?_) | skip
      exact wpAny_bind (wpAny_rule (wpAny_pure (wpAny_pure h)))
    · rw [decide_eq_false c]
      have c' : ¬ (false = true) := Bool.false_ne_true
      have fin : s' = s' ∧ ((none, ()) : Option (Option Nat) × Unit) = (none, ()) ∧ ∃ don, pl = don ++ left ∧ ∀ j ∈ don, ∀ x, xs[j]? = some x → x.1 ≠ k := ⟨rfl, rfl, don ++ [j], by rw [e1]; simp, fun i hi y hy => by
        rcases List.mem_append.mp hi with hi | hi
        · exact e2 i hi y hy
        · have : i = j := by simpa using hi
          subst this
          rw [hx] at hy
          cases hy
          exact c⟩
      simp only [Bool.false_eq_true, if_false]
      refine wpAny_bind (wpAny_rule ?_)
      first
        | exact wpAny_pure fin
        | exact wpAny_bind (wpAny_pure (wpAny_pure fin))
  · rintro r s' ⟨rfl, rfl, don, e1, e2⟩
    rw [List.append_nil] at e1
    subst e1
    rw [place_none fun j x hx e => e2 j (p2 j x hx e) x hx e] at h
    exact wpAny_pure h
theorem tells_not {key : Value} {stored : List Value} {k : D} {Q : Bool → Shared → Prop} (hk : KI s.heap k key) (hst : ∀ v ∈ stored, ∃ d, KI s.heap d v) (h : Q false s) : wpAny (model prog w) A (tableMayTell key stored) Q E s := by
  unfold tableMayTell
  split
  · exact wpAny_pure h
  · refine wpAny_bind (nk_quiet keyDepth 8 k key _ (by decide) hk.1 hk.2 ?_)
    simp only [Bool.not_true, Bool.false_eq_true, if_false]
    refine wpAny_bind ?_
    refine wpAny_forIn_list _ (fun left r s' => s' = s ∧ r = (none, ()) ∧ ∀ v ∈ left, ∃ d, KI s.heap d v) _ ?_ ?_ _ _ ⟨rfl, rfl, hst⟩
    · rintro v left r s' ⟨rfl, rfl, hl⟩
      obtain ⟨d, hv⟩ := hl v List.mem_cons_self
      refine wpAny_bind (nk_quiet keyDepth 8 d v _ (by decide) hv.1 hv.2 ?_)
      simp only [Bool.not_true, Bool.false_eq_true, if_false]
      exact wpAny_pure ⟨rfl, rfl, fun u hu => hl u (List.mem_cons_of_mem _ hu)⟩
    · rintro r s' ⟨rfl, rfl, _⟩
      exact wpAny_pure h
theorem find_congr {α : Type} {p q : α → Bool} : ∀ {l : List α}, (∀ x ∈ l, p x = q x) → l.findIdx? p = l.findIdx? q
  | [], _ => rfl
  | x :: l, h => by
    rw [List.findIdx?_cons, List.findIdx?_cons, h x List.mem_cons_self, find_congr fun y hy => h y (List.mem_cons_of_mem _ hy)]
/-- a key is looked for -/
theorem dx_find {d : Addr} {o : Obj} {ep : Nat} {xs : List Ent} {k : D} {key : Value} {Q : Option Nat → Shared → Prop} (hu : A.units + keyDepth < cLine) (hk : KI s.heap k key) (ho : s.heap.get? d = some o) (hd : o.data = .dict (xs.map (entO w)).toArray ep)
    (ki : ∀ x ∈ xs, KI s.heap x.1 x.2.1) (nd : (xs.map (·.1)).Nodup) (h : Q (placeX xs k) s) : wpAny (model prog w) A (dictFind d key (hashK w k)) Q E s := by
  have keys : ∀ e ∈ (xs.map (entO w)).toArray, ∃ x ∈ xs, e = entO w x := fun e he => by
    have : e ∈ xs.map (entO w) := by simpa using he
    obtain ⟨x, hx, rfl⟩ := List.mem_map.mp this
    exact ⟨x, hx, rfl⟩
  unfold dictFind
  try with_reducible refine wpAny_holding ?_
  refine wpAny_bind (wpAny_dictEntries ho hd ?_)
  dsimp only
  have hwalk := walk_plain (prog := prog) (w := w) (E := E) (Q := Q) hu hk ho hd ki nd h
  obtain ⟨p1, p2⟩ := places_ok (w := w) (xs := xs) (k := k)
  have hstored : ∀ v ∈ (placesWithHash (xs.map (entO w)).toArray.size (fun i => ((xs.map (entO w)).toArray)[i]?.map (·.hash)) (hashK w k)).filterMap (fun i => ((xs.map (entO w)).toArray)[i]?.map (·.key)), ∃ e, KI s.heap e v := by
    intro v hv
    obtain ⟨i, hi, e⟩ := List.mem_filterMap.mp hv
    obtain ⟨x, hx, _⟩ := p1 i hi
    rw [ent_get, hx] at e
    have e : x.2.1 = v := by simpa [entO] using e
    subst e
    exact ⟨x.1, ki x (List.mem_of_getElem? hx)⟩
  have rest : wpAny (model prog w) A (do
      let places := placesWithHash (xs.map (entO w)).toArray.size (fun i => ((xs.map (entO w)).toArray)[i]?.map (·.hash)) (hashK w k)
      let stored := places.filterMap fun i => ((xs.map (entO w)).toArray)[i]?.map (·.key)
      if (key :: stored).all carriedByValue then return ← dictWalkPlain d key (hashK w k) (xs.map (entO w)).toArray places
      if let .ref _ := key then
        if (xs.map (entO w)).toArray.any fun e => e.key == key && e.hash != hashK w k then unsupported "dict.find:a-stored-key-whose-hash-has-changed"
      let tells ← if stored == [key] then pure false else tableMayTell key stored
      if tells && stored.length ≥ 2 then unsupported "dict.find:order-among-keys-of-one-hash"
      let mut hit : Option Nat := none
      for i in places do
        if let some e := ((xs.map (entO w)).toArray)[i]? then
          if e.hash == hashK w k then
            let before ← dictEpoch d (keyPart key)
            let same ← eqBool e.key key
            if (← dictEpoch d (keyPart key)) != before then unsupported "dict.changed-during-lookup"
            if same then
              if hit.isSome then unsupported "dict.find:order-among-keys-of-one-hash"
              rule "dict.find.hit"
              if stored.length < 2 then return some i
              hit := some i
            else
              rule "dict.find.same-hash-other-key"
              if tells && !(0 ≤ hashK w k && hashK w k < 32) then unsupported "dict.find:asked-again-or-not-hangs-on-the-table"
      return hit) Q E s := by
    dsimp only
    by_cases hall : (key :: (placesWithHash (xs.map (entO w)).toArray.size (fun i => ((xs.map (entO w)).toArray)[i]?.map (·.hash)) (hashK w k)).filterMap (fun i => ((xs.map (entO w)).toArray)[i]?.map (·.key))).all carriedByValue = true
    · rw [if_pos hall]
      first
        | exact hwalk
        | exact wpAny_bind (wpAny_mono hwalk (fun _ _ z => wpAny_pure z) fun _ _ z => z)
    rw [if_neg hall]
    have pn : (placesWithHash (xs.map (entO w)).toArray.size (fun i => ((xs.map (entO w)).toArray)[i]?.map (·.hash)) (hashK w k)).Nodup := by
      unfold placesWithHash
      exact List.nodup_range.sublist List.filter_sublist
    generalize placesWithHash (xs.map (entO w)).toArray.size (fun i => ((xs.map (entO w)).toArray)[i]?.map (·.hash)) (hashK w k) = pl at p1 p2 hstored pn
    have main : ∀ (stored : List Value), (∀ v ∈ stored, ∃ e, KI s.heap e v) → wpAny (model prog w) A (do
      let tells ← if stored == [key] then pure false else tableMayTell key stored
      if tells && stored.length ≥ 2 then unsupported "dict.find:order-among-keys-of-one-hash"
      let mut hit : Option Nat := none
      for i in pl do
        if let some e := ((xs.map (entO w)).toArray)[i]? then
          if e.hash == hashK w k then
            let before ← dictEpoch d (keyPart key)
            let same ← eqBool e.key key
            if (← dictEpoch d (keyPart key)) != before then unsupported "dict.changed-during-lookup"
            if same then
              if hit.isSome then unsupported "dict.find:order-among-keys-of-one-hash"
              rule "dict.find.hit"
              if stored.length < 2 then return some i
              hit := some i
            else
              rule "dict.find.same-hash-other-key"
              if tells && !(0 ≤ hashK w k && hashK w k < 32) then unsupported "dict.find:asked-again-or-not-hangs-on-the-table"
      return hit) Q E s := by
      intro stored hst
      by_cases hone : (stored == [key]) = true
      all_goals first
        | rw [if_pos hone]
        | rw [if_neg hone]
      all_goals first
        | refine wpAny_bind (wpAny_pure ?_)
        | refine wpAny_bind (tells_not hk hst ?_)
      all_goals
        dsimp only
        rw [if_neg (by simp)]
        refine wpAny_bind ?_
        refine wpAny_forIn_list _ (fun left b s' => s' = s ∧ ∃ hit, b = (none, hit) ∧ ∃ don, pl = don ++ left ∧ don.Nodup ∧ ((hit = none ∧ ∀ j ∈ don, ∀ x, xs[j]? = some x → x.1 ≠ k) ∨ ∃ j, hit = some j ∧ j ∈ don ∧ placeX xs k = some j)) _ ?_ ?_ _ _
          ⟨rfl, none, rfl, [], rfl, List.nodup_nil, .inl ⟨rfl, fun j hj => (by cases hj)⟩⟩
        · rintro j left b s' ⟨rfl, hit, rfl, don, e1, en, e2⟩
          obtain ⟨x, hx, hh⟩ := p1 j (by rw [e1]; exact List.mem_append_right _ List.mem_cons_self)
          have hjd : j ∉ don := fun hm => by
            rw [e1, List.nodup_append] at pn
            exact pn.2.2 j hm j List.mem_cons_self rfl
          have en' : (don ++ [j]).Nodup := by
            rw [e1, List.append_cons] at pn
            exact (List.nodup_append.mp pn).1
          rw [ent_get, hx]
          dsimp only [Option.map_some]
          have hb : ((entO w x).hash == hashK w k) = true := by
            show (hashK w x.1 == hashK w k) = true
            rw [hh]
            simp
          rw [if_pos hb]
          refine wpAny_bind (wpAny_dictEpoch ho hd (wpAny_bind (nk_eq (ki x (List.mem_of_getElem? hx)).1 hk.1 (ki x (List.mem_of_getElem? hx)).2 hk.2 hu (wpAny_bind (wpAny_dictEpoch ho hd ?_)))))
          have hep : ¬ (ep != ep) = true := by simp
          show wpAny _ _ (if (ep != ep) = true then _ else _) _ E _
          rw [if_neg hep]
          by_cases c : x.1 = k
          · have hpl := place_some nd hx c
            rw [decide_eq_true c]
            have hnone : hit = none := by
              rcases e2 with ⟨h1, _⟩ | ⟨i, _, h2, h3⟩
              · exact h1
              · rw [hpl] at h3
                cases h3
                exact absurd h2 hjd
            subst hnone
            first | rw [if_pos rfl] | skip
            simp only [Option.isSome_none, Bool.false_eq_true, if_false]
            first | refine wpAny_bind (wpAny_pure ?_) | skip
            refine wpAny_bind (wpAny_rule ?_)
            rw [hpl] at h
            split
            · exact wpAny_pure (wpAny_pure h)
            · exact wpAny_pure ⟨rfl, some j, rfl, don ++ [j], by rw [e1]; simp, en', .inr ⟨j, rfl, by simp, hpl⟩⟩
          · rw [decide_eq_false c]
            simp only [Bool.false_eq_true, if_false]
            refine wpAny_bind (wpAny_rule ?_)
            first | rw [if_neg (by simp)] | skip
            have fin : s' = s' ∧ ∃ hit', ((none, hit) : Option (Option Nat) × Option Nat) = (none, hit') ∧ ∃ don, pl = don ++ left ∧ don.Nodup ∧ ((hit' = none ∧ ∀ j ∈ don, ∀ x, xs[j]? = some x → x.1 ≠ k) ∨ ∃ j, hit' = some j ∧ j ∈ don ∧ placeX xs k = some j) :=
              ⟨rfl, hit, rfl, don ++ [j], by rw [e1]; simp, en', by
                rcases e2 with ⟨h1, h2⟩ | ⟨i, h1, h2, h3⟩
                · refine .inl ⟨h1, fun i hi y hy => ?_⟩
                  rcases List.mem_append.mp hi with hi | hi
                  · exact h2 i hi y hy
                  · have : i = j := by simpa using hi
                    subst this
                    rw [hx] at hy
                    cases hy
                    exact c
                · exact .inr ⟨i, h1, List.mem_append_left _ h2, h3⟩⟩
            first
              | exact wpAny_pure fin
              | exact wpAny_bind (wpAny_pure (wpAny_pure fin))
        · rintro b s' ⟨rfl, hit, rfl, don, e1, _, e2⟩
          rw [List.append_nil] at e1
          subst e1
          have e3 : placeX xs k = hit := by
            rcases e2 with ⟨rfl, e2⟩ | ⟨j, rfl, _, e2⟩
            · exact place_none fun j x hx e => e2 j (p2 j x hx e) x hx e
            · exact e2
          rw [e3] at h
          exact wpAny_pure h
    rcases hk.shape with ⟨i, t, rfl, rfl⟩ | ⟨z, t, rfl, rfl⟩ | ⟨ys, b, rfl, rfl⟩
    · exact main _ hstored
    · exact main _ hstored
    · have hany : ¬ ((xs.map (entO w)).toArray.any fun e => e.key == Value.ref b && e.hash != hashK w (.tup ys)) = true := by
        rw [← Array.any_toList, List.any_eq_true]
        rintro ⟨e, hin, hc⟩
        obtain ⟨x, hx, rfl⟩ := keys e (Array.mem_toList_iff.mp hin)
        simp only [entO, Bool.and_eq_true, beq_iff_eq, bne_iff_ne, ne_eq] at hc
        have hx' := ki x hx
        rw [hc.1] at hx'
        exact hc.2 (by rw [hx'.inj hk])
      dsimp only
      rw [if_neg hany]
      exact main _ hstored
  rcases hk.shape with ⟨i, t, rfl, rfl⟩ | ⟨z, t, rfl, rfl⟩ | ⟨ys, b, rfl, rfl⟩
  · exact rest
  · dsimp only
    by_cases hs : (xs.map (entO w)).toArray.all (fun e => isExactStrKey e.key) = true
    · rw [if_pos hs]
      have allS : ∀ x ∈ xs, ∃ z' t', x.1 = .str z' ∧ x.2.1 = .str z' t' := fun x hx => by
        have := Array.all_eq_true'.mp hs (entO w x) (by simpa using List.mem_map.mpr ⟨x, hx, rfl⟩)
        rcases (ki x hx).shape with ⟨i, t, e1, e2⟩ | ⟨z', t', e1, e2⟩ | ⟨ys, b, e1, e2⟩
        · rw [show (entO w x).key = x.2.1 from rfl, e2] at this
          simp [isExactStrKey] at this
        · exact ⟨z', t', e1, e2⟩
        · rw [show (entO w x).key = x.2.1 from rfl, e2] at this
          simp [isExactStrKey] at this
      have hidx : ((xs.map (entO w)).toArray).findIdx? (fun e => e.key.isStr z) = placeX xs (.str z) := by
        have : ((xs.map (entO w)).toArray).findIdx? (fun e => e.key.isStr z) = (xs.map (entO w)).findIdx? (fun e => e.key.isStr z) := by simp
        rw [this, List.findIdx?_map]
        unfold placeX
        refine find_congr fun x hx => ?_
        obtain ⟨z', t', e1, e2⟩ := allS x hx
        show (x.2.1).isStr z = decide (x.1 = .str z)
        rw [e1, e2]
        rw [Bool.eq_iff_iff]
        simp [Value.isStr]
      have by_value : wpAny (model prog w) A (foundByValue d (.str z t) (xs.map (entO w)).toArray z) Q E s := by
        unfold foundByValue
        rw [hidx]
        cases hp : placeX xs (.str z) with
        | none =>
          rw [hp] at h
          exact wpAny_pure h
        | some j =>
          obtain ⟨x, hx, ex⟩ := place_at hp
          dsimp only
          rw [ent_get, hx]
          dsimp only [Option.map_some]
          refine wpAny_bind (wpAny_dictEpoch ho hd (wpAny_bind (nk_eq (ki x (List.mem_of_getElem? hx)).1 hk.1 (ki x (List.mem_of_getElem? hx)).2 hk.2 hu (wpAny_bind (wpAny_dictEpoch ho hd ?_)))))
          have hep : ¬ (ep != ep) = true := by simp
          show wpAny _ _ (if (ep != ep) = true then _ else _) _ E _
          rw [if_neg hep, decide_eq_true ex]
          rw [hp] at h
          first | rw [if_pos rfl] | skip
          exact wpAny_bind (wpAny_rule (wpAny_pure h))
      first
        | exact by_value
        | exact wpAny_bind (wpAny_mono by_value (fun _ _ z => wpAny_pure z) fun _ _ z => z)
    · rw [if_neg hs]
      exact rest
  · exact rest
end
end Sv
end -- Dfind
section -- Dops
set_option Elab.async false
set_option linter.all false
set_option maxRecDepth 100000
set_option maxHeartbeats 2000000
/-! # What is done with a dict, in the model -/
namespace Sv
open PySem PySem.Spec PyProof.Rows L2

def getX (xs : List Ent) (k : D) : Option (Value × Value) := (placeX xs k).bind fun j => xs[j]?.map (·.2)
def putX (xs : List Ent) (k : D) (key v : Value) : List Ent := match placeX xs k with
  | some j => xs.modify j fun x => (x.1, x.2.1, v)
  | none => xs ++ [(k, key, v)]
def delX (xs : List Ent) (k : D) : List Ent := match placeX xs k with
  | some j => xs.eraseIdx j
  | none => xs
section
variable {prog : Program} {w : World} {A : Around} {E : Value → Shared → Prop} {s : Shared} {d : Addr} {xs : List Ent} {k : D} {key : Value}
theorem DictX.typeIs (m : DictX w s.heap d xs) : s.TypeIs (.ref d) "dict" := let ⟨ep, e⟩ := m.at_; ⟨_, e, rfl⟩
theorem modify_keys (xs : List Ent) (j : Nat) (v : Value) : (xs.modify j fun x => (x.1, x.2.1, v)).map (·.1) = xs.map (·.1) := by
  induction xs generalizing j with
  | nil => simp
  | cons x xs ih => cases j <;> simp [ih]
theorem modify_ents (xs : List Ent) (j : Nat) (v : Value) : ((xs.map (entO w)).toArray.modify j fun e => { e with val := v }) = ((xs.modify j fun x => (x.1, x.2.1, v)).map (entO w)).toArray := by
  have : ∀ (l : List Ent) (j : Nat), (l.map (entO w)).modify j (fun e => { e with val := v }) = (l.modify j fun x => (x.1, x.2.1, v)).map (entO w) := by
    intro l
    induction l with
    | nil => intro j; simp
    | cons x l ih => intro j; cases j <;> simp [ih, entO]
  rw [← this]
  simp
theorem mem_modify {xs : List Ent} {j : Nat} {v : Value} {x : Ent} (h : x ∈ xs.modify j fun x => (x.1, x.2.1, v)) : ∃ y ∈ xs, x.1 = y.1 ∧ x.2.1 = y.2.1 := by
  induction xs generalizing j with
  | nil => simp at h
  | cons y xs ih =>
    cases j with
    | zero =>
      simp only [List.modify_zero_cons, List.mem_cons] at h
      rcases h with h | h
      · subst h; exact ⟨y, List.mem_cons_self, rfl, rfl⟩
      · exact ⟨x, List.mem_cons_of_mem _ h, rfl, rfl⟩
    | succ j =>
      simp only [List.modify_succ_cons, List.mem_cons] at h
      rcases h with h | h
      · subst h; exact ⟨x, List.mem_cons_self, rfl, rfl⟩
      · obtain ⟨z, hz, e⟩ := ih h
        exact ⟨z, List.mem_cons_of_mem _ hz, e⟩
theorem place_ne {xs : List Ent} {k : D} (h : placeX xs k = none) : ∀ x ∈ xs, x.1 ≠ k := fun x hx => by
  unfold placeX at h
  rw [List.findIdx?_eq_none_iff] at h
  exact of_decide_eq_false (h x hx)
/-- d's entry at k -/
theorem dx_get {Q : Option Value → Shared → Prop} (hu : A.units + keyDepth < cLine) (hk : KI s.heap k key) (m : DictX w s.heap d xs) (h : Q ((getX xs k).map (·.2)) { s with toks := s.toks + drawsK k }) : wpAny (model prog w) A (dictGet d key) Q E s := by
  obtain ⟨ep, ho⟩ := m.at_
  unfold dictGet
  try with_reducible refine wpAny_holding ?_
  refine wpAny_bind (nk_hash keyDepth k A s key _ hk.1 hk.2 hu (wpAny_bind (dx_find (s := { s with toks := s.toks + drawsK k }) hu hk ho rfl m.ki m.nd ?_)))
  unfold getX at h
  cases hp : placeX xs k with
  | none =>
    rw [hp] at h
    exact wpAny_pure h
  | some j =>
    obtain ⟨x, hx, _⟩ := place_at hp
    rw [hp] at h
    simp only [Option.bind_some, hx, Option.map_some] at h
    refine wpAny_bind (wpAny_dictEntries (s := { s with toks := s.toks + drawsK k }) ho rfl ?_)
    rw [ent_get, hx]
    exact wpAny_pure h
/-- behind a change -/
theorem dx_new {h' : Heap} {xs' : List Ent} {ep : Nat} {o : Obj} {es : Array DictEntry} {ep0 : Nat} (hd : o.data = .dict es ep0) (ho : s.heap.get? d = some o) (hs : Heap.SameBut d s.heap h') (hg : h'.get? d = some ({ cls := .type "dict", data := .dict (xs'.map (entO w)).toArray ep } : Obj))
    (ki : ∀ x ∈ xs', KI s.heap x.1 x.2.1) (nd : (xs'.map (·.1)).Nodup) : DictX w h' d xs' := ⟨⟨ep, hg⟩, fun x hx => (ki x hx).same ho hd hs, nd⟩
theorem push_ents (xs : List Ent) (k : D) (key v : Value) : ((xs.map (entO w)).toArray.push ⟨hashK w k, key, v⟩) = ((xs ++ [(k, key, v)]).map (entO w)).toArray := by simp [entO]
theorem erase_ents (xs : List Ent) (j : Nat) : ((xs.map (entO w)).toArray.eraseIdxIfInBounds j) = ((xs.eraseIdx j).map (entO w)).toArray := by
  rw [List.eraseIdxIfInBounds_toArray]
  congr 1
  induction xs generalizing j with
  | nil => simp
  | cons x xs ih => cases j <;> simp [ih]
theorem nodup_snoc {xs : List Ent} {k : D} {key v : Value} (nd : (xs.map (·.1)).Nodup) (h : ∀ x ∈ xs, x.1 ≠ k) : ((xs ++ [(k, key, v)]).map (·.1)).Nodup := by
  rw [List.map_append, List.nodup_append]
  refine ⟨nd, by simp, fun a ha b hb => ?_⟩
  obtain ⟨x, hx, rfl⟩ := List.mem_map.mp ha
  have : b = k := by simpa using hb
  subst this
  exact h x hx
theorem dx_set {v : Value} {Q : Unit → Shared → Prop} (hu : A.units + keyDepth < cLine) (hk : KI s.heap k key) (m : DictX w s.heap d xs) (hz : xs.length ≤ sizeLine)
    (h : ∀ h', DictX w h' d (putX xs k key v) → Heap.SameBut d s.heap h' → Q () { s with heap := h', toks := s.toks + drawsK k }) : wpAny (model prog w) A (PySem.dictSet d key v) Q E s := by
  obtain ⟨ep, ho⟩ := m.at_
  unfold PySem.dictSet
  try with_reducible refine wpAny_holding ?_
  refine wpAny_bind (nk_hash keyDepth k A s key _ hk.1 hk.2 hu ?_)
  unfold dictSetHashed
  try with_reducible refine wpAny_holding ?_
  refine wpAny_bind (dx_find (s := { s with toks := s.toks + drawsK k }) hu hk ho rfl m.ki m.nd ?_)
  unfold putX at h
  cases hp : placeX xs k with
  | none =>
    rw [hp] at h
    refine wpAny_bind (wpAny_rule (wpAny_updateDictKeys (hz := by simpa using hz) (s := { s with toks := s.toks + drawsK k }) ho rfl (h _ ?_ (Heap.SameBut.update ..))))
    refine dx_new (s := s) (ep := ep + 1) rfl ho (Heap.SameBut.update ..) ?_ (fun x hx => ?_) (nodup_snoc m.nd (place_ne hp))
    · rw [← push_ents]
      exact Heap.get?_update_self _ ho rfl
    · rcases List.mem_append.mp hx with hx | hx
      · exact m.ki x hx
      · have : x = (k, key, v) := by simpa using hx
        subst this
        exact hk
  | some j =>
    rw [hp] at h
    refine wpAny_bind (wpAny_rule (wpAny_bind (wpAny_updateDict (s := { s with toks := s.toks + drawsK k }) ho rfl (wpAny_point (h _ ?_ (Heap.SameBut.update ..))))))
    refine dx_new (s := s) (ep := ep) rfl ho (Heap.SameBut.update ..) ?_ (fun x hx => ?_) (by rw [modify_keys]; exact m.nd)
    · rw [← modify_ents]
      exact Heap.get?_update_self _ ho rfl
    · obtain ⟨y, hy, e1, e2⟩ := mem_modify hx
      rw [e1, e2]
      exact m.ki y hy
theorem dx_default {v : Value} {Q : Value → Shared → Prop} (hu : A.units + keyDepth < cLine) (hk : KI s.heap k key) (m : DictX w s.heap d xs) (hz : xs.length ≤ sizeLine)
    (h1 : ∀ p, getX xs k = some p → Q p.2 { s with toks := s.toks + drawsK k })
    (h2 : getX xs k = none → ∀ h', DictX w h' d (putX xs k key v) → Heap.SameBut d s.heap h' → Q v { s with heap := h', toks := s.toks + drawsK k }) : wpAny (model prog w) A (dictSetDefault d key v) Q E s := by
  obtain ⟨ep, ho⟩ := m.at_
  unfold dictSetDefault
  try with_reducible refine wpAny_holding ?_
  refine wpAny_bind (nk_hash keyDepth k A s key _ hk.1 hk.2 hu ?_)
  refine wpAny_bind (dx_find (s := { s with toks := s.toks + drawsK k }) hu hk ho rfl m.ki m.nd ?_)
  unfold putX at h2
  unfold getX at h1 h2
  cases hp : placeX xs k with
  | none =>
    rw [hp] at h2
    refine wpAny_bind (wpAny_rule (wpAny_bind (wpAny_updateDictKeys (hz := by simpa using hz) (s := { s with toks := s.toks + drawsK k }) ho rfl (wpAny_pure (h2 rfl _ ?_ (Heap.SameBut.update ..))))))
    refine dx_new (s := s) (ep := ep + 1) rfl ho (Heap.SameBut.update ..) ?_ (fun x hx => ?_) (nodup_snoc m.nd (place_ne hp))
    · rw [← push_ents]
      exact Heap.get?_update_self _ ho rfl
    · rcases List.mem_append.mp hx with hx | hx
      · exact m.ki x hx
      · have : x = (k, key, v) := by simpa using hx
        subst this
        exact hk
  | some j =>
    obtain ⟨x, hx, _⟩ := place_at hp
    rw [hp] at h1
    simp only [Option.bind_some, hx, Option.map_some] at h1
    refine wpAny_bind (wpAny_dictEntries (s := { s with toks := s.toks + drawsK k }) ho rfl ?_)
    rw [ent_get, hx]
    exact wpAny_bind (wpAny_rule (wpAny_pure (h1 _ rfl)))
theorem dx_take {Q : Option DictEntry → Shared → Prop} (hu : A.units + keyDepth < cLine) (hk : KI s.heap k key) (m : DictX w s.heap d xs) (hz : xs.length ≤ sizeLine) {p : Value × Value} (hp : getX xs k = some p)
    (h : ∀ e : DictEntry, e.val = p.2 → ∀ h', DictX w h' d (delX xs k) → Heap.SameBut d s.heap h' → Q (some e) { s with heap := h', toks := s.toks + drawsK k }) : wpAny (model prog w) A (Builtin.Dict.takeOut d key) Q E s := by
  obtain ⟨ep, ho⟩ := m.at_
  unfold getX at hp
  obtain ⟨j, hj, hp⟩ := Option.bind_eq_some_iff.mp hp
  obtain ⟨x, hx, rfl⟩ := Option.map_eq_some_iff.mp hp
  unfold delX at h
  rw [hj] at h
  unfold Builtin.Dict.takeOut
  try with_reducible refine wpAny_holding ?_
  refine wpAny_bind (nk_hash keyDepth k A s key _ hk.1 hk.2 hu ?_)
  refine wpAny_bind (dx_find (s := { s with toks := s.toks + drawsK k }) hu hk ho rfl m.ki m.nd ?_)
  rw [hj]
  refine wpAny_bind (wpAny_dictEntries (s := { s with toks := s.toks + drawsK k }) ho rfl ?_)
  rw [ent_get, hx]
  refine wpAny_bind (wpAny_updateDictKeys (hz := by simpa using hz) (s := { s with toks := s.toks + drawsK k }) ho rfl (wpAny_pure (h (entO w x) rfl _ ?_ (Heap.SameBut.update ..))))
  refine dx_new (s := s) (ep := ep + 1) rfl ho (Heap.SameBut.update ..) ?_ (fun y hy => m.ki y (List.mem_of_mem_eraseIdx hy)) (m.nd.sublist ((List.eraseIdx_sublist ..).map _))
  rw [← erase_ents]
  exact Heap.get?_update_self _ ho rfl
/-! ### as the text has it -/
theorem dx_item {p : Value × Value} {Q : Value → Shared → Prop} (hu : A.in1.units + keyDepth < cLine) (hk : KI s.heap k key) (m : DictX w s.heap d xs) (hp : getX xs k = some p) (h : ∀ t, Q p.2 { s with toks := t }) : wpAny (model prog w) A (getItem (.ref d) key) Q E s := by
  unfold getItem
  try with_reducible refine wpAny_holding ?_
  refine wpAny_bind (wpAny_sequenceKey m.typeIs (by decide) ?_)
  refine wpAny_bind (wpAny_callSpecial?_slot (name := Str.ofString "__getitem__") m.typeIs slot_dict_getitem (wpAny_call_entry slot_dict_getitem m.typeIs entry_dict_getitem ?_ (args_dict_getitem _ _)))
  show wpAny _ _ (dictGet d key >>= _) _ _ s
  refine wpAny_bind (dx_get hu hk m ?_)
  rw [hp]
  exact wpAny_pure ⟨p.2, rfl, wpAny_pure (h _)⟩
theorem dx_has {Q : Bool → Shared → Prop} (hu : A.in1.units + keyDepth < cLine) (hk : KI s.heap k key) (hd : (d == sysModules) = false) (m : DictX w s.heap d xs) (h : ∀ t, Q (getX xs k).isSome { s with toks := t }) : wpAny (model prog w) A (contains (.ref d) key) Q E s := by
  unfold contains
  try with_reducible refine wpAny_holding ?_
  refine wpAny_bind (wpAny_specialOf m.typeIs slot_dict_contains.lookup ?_)
  have ne : ¬ (some (Value.builtin "dict.__contains__") == some Value.none) = true := by
    rw [beq_builtin_none]
    exact Bool.false_ne_true
  show wpAny _ _ (if (some (Value.builtin "dict.__contains__") == some Value.none) = true then _ else _) _ E s
  rw [if_neg ne]
  refine wpAny_bind (wpAny_callSpecialUnlessNone?_slot (name := Str.ofString "__contains__") m.typeIs slot_dict_contains (wpAny_call_entry slot_dict_contains m.typeIs entry_dict_contains ?_ (args_dict_contains _ _)))
  show wpAny _ _ (dictGet d key >>= _) _ _ s
  refine wpAny_bind (dx_get hu hk m ?_)
  cases hf : getX xs k with
  | some p =>
    rw [hf] at h
    show wpAny _ _ (ret (.bool true)) _ _ _
    exact wpAny_pure ⟨_, rfl, wpAny_truthy_bool (h _)⟩
  | none =>
    rw [hf] at h
    show wpAny _ _ (Builtin.Dict.pendingKey? d key >>= _) _ _ _
    exact wpAny_bind (wpAny_pendingKey_other hd (wpAny_pure ⟨_, rfl, wpAny_truthy_bool (h _)⟩))
theorem dx_in {Q : Value → Shared → Prop} (hu : A.in1.units + keyDepth < cLine) (hk : KI s.heap k key) (hd : (d == sysModules) = false) (m : DictX w s.heap d xs) (h : ∀ t, Q (.bool (getX xs k).isSome) { s with toks := t }) : wpAny (model prog w) A (compareOp .In key (.ref d)) Q E s := by
  show wpAny _ _ (do return .bool (← contains (.ref d) key)) Q E s
  exact wpAny_bind (dx_has hu hk hd m fun t => wpAny_pure (h t))
theorem dx_notin {Q : Value → Shared → Prop} (hu : A.in1.units + keyDepth < cLine) (hk : KI s.heap k key) (hd : (d == sysModules) = false) (m : DictX w s.heap d xs) (h : ∀ t, Q (.bool (!(getX xs k).isSome)) { s with toks := t }) : wpAny (model prog w) A (compareOp .NotIn key (.ref d)) Q E s := by
  show wpAny _ _ (do return .bool (!(← contains (.ref d) key))) Q E s
  exact wpAny_bind (dx_has hu hk hd m fun t => wpAny_pure (h t))
theorem dx_setItem {v : Value} {Q : Unit → Shared → Prop} (hu : A.in1.units + keyDepth < cLine) (hk : KI s.heap k key) (m : DictX w s.heap d xs) (hz : xs.length ≤ sizeLine)
    (h : ∀ h' t, DictX w h' d (putX xs k key v) → Heap.SameBut d s.heap h' → Q () { s with heap := h', toks := t }) : wpAny (model prog w) A (setItem (.ref d) key v) Q E s := by
  unfold setItem
  try with_reducible refine wpAny_holding ?_
  refine wpAny_bind (wpAny_sequenceKey m.typeIs (by decide) ?_)
  refine wpAny_bind (wpAny_callSpecial?_slot (name := Str.ofString "__setitem__") m.typeIs slot_dict_setitem (wpAny_call_entry slot_dict_setitem m.typeIs entry_dict_setitem ?_ (args_dict_setitem _ _ _)))
  show wpAny _ _ (Builtin.Dict.notOrdered "__setitem__" ⟨[.ref d, key, v], []⟩ >>= _) _ _ s
  refine wpAny_bind (wpAny_notOrdered_dict m.typeIs ?_)
  show wpAny _ _ (PySem.dictSet d key v >>= _) _ _ s
  exact wpAny_bind (dx_set hu hk m hz fun h' m' hs => wpAny_pure ⟨.none, rfl, wpAny_pure (h h' _ m' hs)⟩)
theorem dx_getDef {v : Value} {Q : Value → Shared → Prop} (hu : A.in1.units + keyDepth < cLine) (hk : KI s.heap k key) (hd : (d == sysModules) = false) (m : DictX w s.heap d xs) (h : ∀ t, Q (((getX xs k).map (·.2)).getD v) { s with toks := t }) :
    wpAny (model prog w) A (call (.builtin "dict.get") [.ref d, key, v]) Q E s := by
  refine wpAny_call_entry PySem.F.slot_dict_get m.typeIs PySem.F.entry_dict_get ?_ (PySem.F.args_dict_get_3 _ _ _)
  show wpAny _ _ (dictGet d key >>= _) _ _ s
  refine wpAny_bind (dx_get hu hk m ?_)
  cases hf : getX xs k with
  | some p =>
    rw [hf] at h
    exact wpAny_pure ⟨p.2, rfl, h _⟩
  | none =>
    rw [hf] at h
    show wpAny _ _ (Builtin.Dict.missed d key >>= _) _ _ _
    exact wpAny_bind (wpAny_missed_other hd (wpAny_pure ⟨v, rfl, h _⟩))
theorem dx_callDef {v : Value} {Q : Value → Shared → Prop} (hu : A.in1.units + keyDepth < cLine) (hk : KI s.heap k key) (hd : (d == sysModules) = false) (m : DictX w s.heap d xs) (hz : xs.length ≤ sizeLine) (h1 : ∀ p t, getX xs k = some p → Q p.2 { s with toks := t })
    (h2 : getX xs k = none → ∀ h' t, DictX w h' d (putX xs k key v) → Heap.SameBut d s.heap h' → Q v { s with heap := h', toks := t }) : wpAny (model prog w) A (call (.builtin "dict.setdefault") [.ref d, key, v]) Q E s := by
  refine wpAny_call_entry PySem.F.slot_dict_setdefault m.typeIs PySem.F.entry_dict_setdefault ?_ (PySem.F.args_dict_setdefault_3 _ _ _)
  unfold Builtin.«dict.setdefault»
  refine wpAny_bind ?_
  unfold Builtin.Dict.keyAndDefault
  refine wpAny_bind (wpAny_notOrdered_dict m.typeIs ?_)
  show wpAny _ _ (pure (d, key, some v)) _ _ s
  refine wpAny_pure ?_
  have hd' : ¬ (d == sysModules) = true := by rw [hd]; exact Bool.false_ne_true
  show wpAny _ _ (if (d == sysModules) = true then _ else (dictSetDefault d key v >>= _)) _ _ s
  rw [if_neg hd']
  exact wpAny_bind (dx_default hu hk m hz (fun p hp => wpAny_pure ⟨p.2, rfl, h1 p _ hp⟩) fun hn h' m' hs => wpAny_pure ⟨v, rfl, h2 hn h' _ m' hs⟩)
theorem dx_pop {p : Value × Value} {Q : Value → Shared → Prop} (hu : A.in1.units + keyDepth < cLine) (hk : KI s.heap k key) (m : DictX w s.heap d xs) (hz : xs.length ≤ sizeLine) (hp : getX xs k = some p)
    (h : ∀ h' t, DictX w h' d (delX xs k) → Heap.SameBut d s.heap h' → Q p.2 { s with heap := h', toks := t }) : wpAny (model prog w) A (call (.builtin "dict.pop") [.ref d, key]) Q E s := by
  obtain ⟨ep, ho⟩ := id m.at_
  refine wpAny_call_entry PySem.F.slot_dict_pop m.typeIs PySem.F.entry_dict_pop ?_ (PySem.F.args_dict_pop_2 _ _)
  unfold Builtin.«dict.pop»
  refine wpAny_bind ?_
  unfold Builtin.Dict.keyAndDefault
  refine wpAny_bind (wpAny_notOrdered_dict m.typeIs ?_)
  show wpAny _ _ (pure (d, key, none)) _ _ s
  refine wpAny_pure ?_
  have nemp : ¬ ((xs.map (entO w)).toArray.isEmpty) = true := by
    cases xs with
    | nil => simp [getX, placeX] at hp
    | cons x xs => simp
  have hpart : (keyPart key).isSome = true ∨ (keyPart key).isSome = false := by cases (keyPart key).isSome <;> simp
  rcases hpart with hpart | hpart
  all_goals dsimp only
  · rw [if_pos hpart]
    refine wpAny_bind (wpAny_pure ?_)
    simp only [Bool.false_eq_true, if_false]
    refine wpAny_bind (dx_take hu hk m hz hp fun e he h' m' hs => ?_)
    simp only [Option.isNone_some, Bool.false_eq_true, if_false]
    exact wpAny_bind (wpAny_letGo (wpAny_pure ⟨e.val, rfl, by rw [he]; exact h h' _ m' hs⟩))
  · rw [if_neg (by rw [hpart]; exact Bool.false_ne_true)]
    refine wpAny_bind (wpAny_dictEntries ho rfl (wpAny_bind (wpAny_pure ?_)))
    rw [if_neg nemp]
    refine wpAny_bind (dx_take hu hk m hz hp fun e he h' m' hs => ?_)
    simp only [Option.isNone_some, Bool.false_eq_true, if_false]
    exact wpAny_bind (wpAny_letGo (wpAny_pure ⟨e.val, rfl, by rw [he]; exact h h' _ m' hs⟩))
end
end Sv
end -- Dops
section -- Dd
set_option Elab.async false
set_option linter.all false
set_option maxRecDepth 100000
set_option maxHeartbeats 2000000
/-! # Dicts: the interpreter's and the model's -/
namespace Sv
open PySem PySem.Spec PyProof.Rows L2

section
variable {X : Cx} {F : Fm} {pins : List (Addr × Obj)} {s : Shared} {σ : L2.St} {H H' : Hp} {μ μ' : Nat → Addr} {n n' : Nat} {fr lv : Sto} {Z : Zx} {E : Value → Shared → Prop}
theorem nks_of (I : Inv X pins σ H s) (hK : X.K = Z.K) : ∀ (m : Nat) (d : D) (v : V) (u : Value), D.key m d = true → Rp Z μ n H d v → RelV v u → NK s.heap d u := by
  intro m
  induction m with
  | zero =>
    intro d v u hd h r
    cases d with
    | int i => have := rp_int h; subst this; simp only [NK]; exact r
    | str i => have := rp_str h; subst this; simp only [NK]; exact r
    | _ => simp [D.key] at hd
  | succ m ih =>
    intro d v u hd h r
    cases d with
    | int i => have := rp_int h; subst this; simp only [NK]; exact r
    | str i => have := rp_str h; subst this; simp only [NK]; exact r
    | tup xs =>
      obtain ⟨a, vs, rfl, h1, h2⟩ := rp_tup h
      obtain rfl : u = Value.ref a := r
      rw [← hK] at h1
      obtain ⟨its, rv, ⟨o, ho, hc, k, hd'⟩, hzz⟩ := I.tuple h1
      simp only [NK]
      refine ⟨a, o, its.toArray, k, rfl, ho, hc, hd', ?_⟩
      have hx := key_tup.mp hd
      clear hd h h1 ho hc hd' hzz
      show NKs s.heap xs its
      induction xs generalizing vs its with
      | nil =>
        simp only [Rps] at h2
        subst h2
        cases rv
        simp [NKs]
      | cons x xs ihl =>
        simp only [Rps] at h2
        obtain ⟨v, r, rfl, h3, h4⟩ := h2
        cases rv with
        | cons r1 r2 =>
          simp only [NKs]
          exact ⟨_, _, rfl, ih x v _ (hx x List.mem_cons_self) h3 r1, ihl _ h4 _ r2 (fun y hy => hx y (List.mem_cons_of_mem _ hy))⟩
    | _ => simp [D.key] at hd
theorem nk_of (I : Inv X pins σ H s) (hK : X.K = Z.K) {d : D} {v : V} {u : Value} (hd : D.key keyDepth d = true) (h : Rp Z μ n H d v) (r : RelV v u) : NK s.heap d u := nks_of I hK keyDepth d v u hd h r
theorem pairedMap {α β α' β' : Type} {R : α → β → Prop} {R' : α' → β' → Prop} {f : α → α'} {g : β → β'} (h : ∀ a b, R a b → R' (f a) (g b)) {l₁ : List α} {l₂ : List β} (hp : Paired R l₁ l₂) : Paired R' (l₁.map f) (l₂.map g) := by
  induction hp with
  | nil => exact .nil
  | cons r _ ih => exact .cons (h _ _ r) ih
theorem pairedApp {α β : Type} {R : α → β → Prop} {a c : List α} {b d : List β} (h : Paired R a b) (h' : Paired R c d) : Paired R (a ++ c) (b ++ d) := by
  induction h with
  | nil => exact h'
  | cons r _ ih => exact .cons r ih
theorem pairedErase {α β : Type} {R : α → β → Prop} {l₁ : List α} {l₂ : List β} (hp : Paired R l₁ l₂) (j : Nat) : Paired R (l₁.eraseIdx j) (l₂.eraseIdx j) := by
  induction hp generalizing j with
  | nil => simpa using Paired.nil
  | cons r t ih => cases j with
    | zero => simpa using t
    | succ j => simpa using Paired.cons r (ih j)
theorem pairedMod {α β : Type} {R : α → β → Prop} {f : α → α} {g : β → β} (h : ∀ a b, R a b → R (f a) (g b)) {l₁ : List α} {l₂ : List β} (hp : Paired R l₁ l₂) (j : Nat) : Paired R (l₁.modify j f) (l₂.modify j g) := by
  induction hp generalizing j with
  | nil => simpa using Paired.nil
  | cons r t ih => cases j with
    | zero => simpa using Paired.cons (h _ _ r) t
    | succ j => simpa using Paired.cons r (ih j)
theorem pairedIdx {α β : Type} {R : α → β → Prop} {p : α → Bool} {q : β → Bool} (h : ∀ a b, R a b → p a = q b) {l₁ : List α} {l₂ : List β} (hp : Paired R l₁ l₂) : l₁.findIdx? p = l₂.findIdx? q := by
  induction hp with
  | nil => rfl
  | cons r _ ih => rw [List.findIdx?_cons, List.findIdx?_cons, h _ _ r, ih]
theorem pairedGet {α β : Type} {R : α → β → Prop} {l₁ : List α} {l₂ : List β} (hp : Paired R l₁ l₂) {j : Nat} {a : α} (e : l₁[j]? = some a) : ∃ b, l₂[j]? = some b ∧ R a b := by
  induction hp generalizing j with
  | nil => simp at e
  | cons r _ ih =>
    cases j with
    | zero =>
      simp only [List.getElem?_cons_zero, Option.some.injEq] at e ⊢
      subst e
      exact ⟨_, rfl, r⟩
    | succ j =>
      simp only [List.getElem?_cons_succ] at e ⊢
      exact ih e
/-- an entry, with the values as they stand -/
def xPair (Z : Zx) (μ : Nat → Addr) (n : Nat) (H : Hp) (p : D × D) (x : Ent) : Prop := x.1 = p.1 ∧ D.key keyDepth p.1 = true ∧ (∃ v, RelV v x.2.1 ∧ Rp Z μ n H p.1 v) ∧ ∃ v, RelV v x.2.2 ∧ Rp Z μ n H p.2 v
theorem toX {w : World} (hw : Z.w = w) {kvs : List (D × D)} {es : List DictEntry} (h : Paired (EnR Z μ n H) kvs es) : ∃ xs, Paired (xPair Z μ n H) kvs xs ∧ es = xs.map (entO w) := by
  induction h with
  | nil => exact ⟨[], .nil, rfl⟩
  | @cons p e kvs es q _ ih =>
    obtain ⟨xs, h1, h2⟩ := ih
    obtain ⟨q1, q2, q3, q4⟩ := q
    refine ⟨(p.1, e.key, e.val) :: xs, .cons ⟨rfl, q2, q3, q4⟩ h1, ?_⟩
    rw [List.map_cons, ← h2]
    obtain ⟨eh, ek, ev⟩ := e
    simp only at q1
    subst q1
    show _ = DictEntry.mk (hashK w p.1) _ _ :: _
    rw [hw]
theorem ofX {w : World} (hw : Z.w = w) {kvs : List (D × D)} {xs : List Ent} (h : Paired (xPair Z μ n H) kvs xs) : Paired (EnR Z μ n H) kvs (xs.map (entO w)) := by
  induction h with
  | nil => exact .nil
  | cons q _ ih =>
    obtain ⟨q1, q2, q3, q4⟩ := q
    exact .cons ⟨by show hashK w _ = _; rw [q1, hw], q2, q3, q4⟩ ih
theorem x_keys {kvs : List (D × D)} {xs : List Ent} (h : Paired (xPair Z μ n H) kvs xs) : xs.map (·.1) = kvs.map (·.1) := by
  induction h with
  | nil => rfl
  | cons q _ ih => rw [List.map_cons, List.map_cons, q.1, ih]
theorem x_ki (I : Inv X pins σ H s) (hK : X.K = Z.K) {kvs : List (D × D)} {xs : List Ent} (h : Paired (xPair Z μ n H) kvs xs) : ∀ x ∈ xs, KI s.heap x.1 x.2.1 := by
  induction h with
  | nil => intro x hx; cases hx
  | @cons p y kvs xs q _ ih =>
    intro x hx
    rcases List.mem_cons.mp hx with z | hx
    · subst z
      obtain ⟨q1, q2, ⟨v, q3, q4⟩, _⟩ := q
      rw [q1]
      exact ⟨q2, nk_of I hK q2 q4 q3⟩
    · exact ih x hx
/-- a told dict, in the model -/
theorem dictX (ft : Fits X F) (I : Inv X pins σ H s) (r : Rel F.z μ H fr lv) {l : Nat} {kvs : List (D × D)} {lk : Bool} (e : look fr lv l = some (.dct kvs lk)) :
    ∃ xs, (μ l == sysModules) = false ∧ kvs.length ≤ sizeLine ∧ (kvs.map (·.1)).Nodup ∧ Paired (xPair F.z μ (fr.length + lv.length) H) kvs xs ∧ Rd H (μ l) (dictO (xs.map (entO X.w)).toArray (μ l)) ∧ DictX X.w s.heap (μ l) xs := by
  obtain ⟨es, h1, h2, h3, h4, h5⟩ := dct_of r e
  obtain ⟨xs, g1, rfl⟩ := toX (w := X.w) ft.w.symm h4
  obtain ⟨ep, ho⟩ := Inv.dictO I h5
  exact ⟨xs, h1, h2, h3, g1, h5, ⟨ep, ho⟩, x_ki I ft.K g1, by rw [x_keys g1]; exact h3⟩
theorem idxX {kvs : List (D × D)} {xs : List Ent} (h : Paired (xPair Z μ n H) kvs xs) (k : D) : kvIdx kvs k = placeX xs k := pairedIdx (fun p x q => by rw [q.1]) h
theorem getXs {kvs : List (D × D)} {xs : List Ent} (h : Paired (xPair Z μ n H) kvs xs) (k : D) : (∀ d, kvGet kvs k = some d → ∃ q v, getX xs k = some q ∧ RelV v q.2 ∧ Rp Z μ n H d v) ∧ (kvGet kvs k = none → getX xs k = none) := by
  unfold kvGet getX
  rw [idxX h]
  cases e : placeX xs k with
  | none => exact ⟨(fun d h => by simp at h), fun _ => rfl⟩
  | some j =>
    obtain ⟨x, hx, _⟩ := place_at e
    have hl : j < kvs.length := by
      have := (List.getElem?_eq_some_iff.mp hx).1
      rw [Paired.length h]
      exact this
    obtain ⟨y, hy, q1, q2, q3, v, q4, q5⟩ := pairedGet h (List.getElem?_eq_getElem hl)
    rw [hx] at hy
    cases hy
    refine ⟨fun d hd => ?_, fun hd => ?_⟩
    · simp only [Option.bind_some, List.getElem?_eq_getElem hl, Option.map_some, Option.some.injEq] at hd
      subst hd
      exact ⟨x.2, v, by simp [hx], q4, q5⟩
    · simp [List.getElem?_eq_getElem hl] at hd
theorem putXs {kvs : List (D × D)} {xs : List Ent} (h : Paired (xPair Z μ n H) kvs xs) {k d : D} {kv dv : V} {key u : Value} (hk : D.key keyDepth k = true) (rk : RelV kv key) (hkv : Rp Z μ n H k kv) (rd : RelV dv u) (hd : Rp Z μ n H d dv) :
    Paired (xPair Z μ n H) (kvPut kvs k d) (putX xs k key u) := by
  unfold kvPut putX
  rw [idxX h]
  cases placeX xs k with
  | none => exact pairedApp h (.cons ⟨rfl, hk, ⟨kv, rk, hkv⟩, dv, rd, hd⟩ .nil)
  | some j => exact pairedMod (fun p x q => ⟨q.1, q.2.1, q.2.2.1, dv, rd, hd⟩) h j
theorem delXs {kvs : List (D × D)} {xs : List Ent} (h : Paired (xPair Z μ n H) kvs xs) (k : D) : Paired (xPair Z μ n H) (kvDel kvs k) (delX xs k) := by
  unfold kvDel delX
  rw [idxX h]
  cases placeX xs k with
  | none => exact h
  | some j => exact pairedErase h j
theorem kvPut_len (kvs : List (D × D)) (k d : D) : (kvPut kvs k d).length ≤ kvs.length + 1 := by
  unfold kvPut
  split <;> simp
theorem kvDel_len (kvs : List (D × D)) (k : D) : (kvDel kvs k).length ≤ kvs.length := by
  unfold kvDel
  split
  · rw [List.length_eraseIdx]
    split <;> omega
  · exact Nat.le_refl _
theorem room_nest {A : Around} (h : A.units + 200 < cLine) : A.in1.units + keyDepth < cLine := by
  have : A.in1.units = A.units + 1 := rfl
  have : keyDepth = 6 := rfl
  omega
/-- d[k] -/
theorem dd_get (ft : Fits X F) (I : Inv X pins σ H s) (r : Rel F.z μ H fr lv) {l : Nat} {kvs : List (D × D)} {lk : Bool} (e : look fr lv l = some (.dct kvs lk)) {k d : D} {v : V} {u : Value} (hf : D.key keyDepth k = true) (hk : Rp F.z μ (fr.length + lv.length) H k v) (ru : RelV v u)
    (hd : kvGet kvs k = some d) {Q : Value → Shared → Prop} (q : ∀ w' s', Inv X pins σ H s' → (∃ v, RelV v w' ∧ Rp F.z μ (fr.length + lv.length) H d v) → Q w' s') : wpAny (model X.prog X.w) X.A (getItem (.ref (μ l)) u) Q E s := by
  obtain ⟨xs, h1, h2, h3, h4, h5, m⟩ := dictX ft I r e
  obtain ⟨p, v', a1, a2, a3⟩ := (getXs h4 k).1 d hd
  exact dx_item (room_nest ft.un) ⟨hf, nk_of I ft.K hf hk ru⟩ m a1 fun t => q p.2 _ (I.tok t) ⟨v', a2, a3⟩
theorem some_of {kvs : List (D × D)} {xs : List Ent} (h : Paired (xPair Z μ n H) kvs xs) (k : D) : (getX xs k).isSome = (kvGet kvs k).isSome := by
  cases e : kvGet kvs k with
  | none => rw [(getXs h k).2 e]; rfl
  | some d =>
    obtain ⟨q, v, a1, _⟩ := (getXs h k).1 d e
    rw [a1]
    rfl
/-- k in d -/
theorem dd_in (ft : Fits X F) (I : Inv X pins σ H s) (r : Rel F.z μ H fr lv) {l : Nat} {kvs : List (D × D)} {lk : Bool} (e : look fr lv l = some (.dct kvs lk)) {k : D} {v : V} {u : Value} (hf : D.key keyDepth k = true) (hk : Rp F.z μ (fr.length + lv.length) H k v) (ru : RelV v u) :
    (∀ Q : Value → Shared → Prop, (∀ s', Inv X pins σ H s' → Q (.bool (kvGet kvs k).isSome) s') → wpAny (model X.prog X.w) X.A (compareOp .In u (.ref (μ l))) Q E s) ∧
    (∀ Q : Value → Shared → Prop, (∀ s', Inv X pins σ H s' → Q (.bool (!(kvGet kvs k).isSome)) s') → wpAny (model X.prog X.w) X.A (compareOp .NotIn u (.ref (μ l))) Q E s) := by
  obtain ⟨xs, h1, h2, h3, h4, h5, m⟩ := dictX ft I r e
  have hki : KI s.heap k u := ⟨hf, nk_of I ft.K hf hk ru⟩
  exact ⟨fun Q q => dx_in (room_nest ft.un) hki h1 m fun t => by rw [some_of h4]; exact q _ (I.tok t), fun Q q => dx_notin (room_nest ft.un) hki h1 m fun t => by rw [some_of h4]; exact q _ (I.tok t)⟩
/-- d.get(k, x) -/
theorem dd_getD (ft : Fits X F) (I : Inv X pins σ H s) (r : Rel F.z μ H fr lv) {l : Nat} {kvs : List (D × D)} {lk : Bool} (e : look fr lv l = some (.dct kvs lk)) {k d : D} {v dv : V} {u du : Value} (hf : D.key keyDepth k = true) (hk : Rp F.z μ (fr.length + lv.length) H k v) (ru : RelV v u)
    (hd : Rp F.z μ (fr.length + lv.length) H d dv) (rd : RelV dv du) {Q : Value → Shared → Prop} (q : ∀ w' s', Inv X pins σ H s' → (∃ v, RelV v w' ∧ Rp F.z μ (fr.length + lv.length) H ((kvGet kvs k).getD d) v) → Q w' s') :
    wpAny (model X.prog X.w) X.A (call (.builtin "dict.get") [.ref (μ l), u, du]) Q E s := by
  obtain ⟨xs, h1, h2, h3, h4, h5, m⟩ := dictX ft I r e
  refine dx_getDef (room_nest ft.un) ⟨hf, nk_of I ft.K hf hk ru⟩ h1 m fun t => q _ _ (I.tok t) ?_
  cases eg : kvGet kvs k with
  | none =>
    rw [(getXs h4 k).2 eg]
    exact ⟨dv, rd, hd⟩
  | some d' =>
    obtain ⟨p, v', a1, a2, a3⟩ := (getXs h4 k).1 d' eg
    rw [a1]
    exact ⟨v', a2, a3⟩
/-! ### changes -/
/-- a dict's object is another one -/
theorem dict_ok {P : Program} {w : World} {H : Hp} {h : Heap} {a : Addr} {es : Array DictEntry} {ep : Nat} (e : h.get? a = some ({ cls := .type "dict", data := .dict es ep } : Obj)) : ObjOk P w H h a (dictO es a) :=
  ⟨⟨ep, e⟩, ⟨_, e⟩, fun h1 h2 ⟨ep, q⟩ k => ⟨ep, k _ q⟩⟩
theorem grow_upd {a : Addr} {o ho : HO} (e : H a = some o) (n1 : ∀ xs, o ≠ .tup xs) (n2 : ∀ x u, o ≠ .frz x u) (n3 : ∀ u, o ≠ .xd u) : Grow 0 μ n H μ n (upd H a ho) :=
  ⟨Nat.le_refl _, fun _ _ => rfl, fun b xs q => by rw [upd_ne (fun z => by subst z; rw [e] at q; exact n1 xs (Option.some.inj q))]; exact q, fun b x u q => by rw [upd_ne (fun z => by subst z; rw [e] at q; exact n2 x u (Option.some.inj q))]; exact q,
    fun b u q => by rw [upd_ne (fun z => by subst z; rw [e] at q; exact n3 u (Option.some.inj q))]; exact q, fun l h => absurd h (Nat.not_lt_zero l)⟩
/-- what is left to be shown behind a change at l -/
def After (X : Cx) (F : Fm) (pins : List (Addr × Obj)) (σ : L2.St) (μ : Nat → Addr) (H : Hp) (fr lv : Sto) (l : Nat) (o : O) (Q : Shared → Prop) : Prop :=
  ∀ s' H' lv', put fr lv l o = some lv' → Rel F.z μ H' fr lv' → Grow fr.length μ (fr.length + lv.length) H μ (fr.length + lv'.length) H' → Inv X pins σ H' s' → Q s'
theorem put_some {l : Nat} {o : O} (h1 : fr.length ≤ l) (h2 : l < fr.length + lv.length) : put fr lv l o = some (lv.set (l - fr.length) o) := by
  unfold Sv.put
  rw [if_pos ⟨h1, h2⟩]
theorem dct_live {Z : Zx} (r : Rel Z μ H fr lv) {l : Nat} {kvs : List (D × D)} (hl : fr.length ≤ l) (e : look fr lv l = some (.dct kvs false)) :
    ∃ es : List DictEntry, (μ l == sysModules) = false ∧ kvs.length ≤ sizeLine ∧ (kvs.map (·.1)).Nodup ∧ Paired (EnR Z μ (fr.length + lv.length) H) kvs es ∧ H (μ l) = some (dictO es.toArray (μ l)) := by
  obtain ⟨h1, h2, h3, es, h4, h5⟩ := r.obj l _ e
  rw [decide_eq_true hl, if_pos ⟨rfl, rfl⟩] at h5
  exact ⟨es, h1, h2, h3, h4, h5⟩
theorem after_dict {h' : Heap} {t' : Nat} (I : Inv X pins σ H s) (r : Rel F.z μ H fr lv) {l : Nat} {kvs kvs' : List (D × D)} {es es' : List DictEntry} {ep : Nat} (hl : fr.length ≤ l) (e : look fr lv l = some (.dct kvs false)) (ho : H (μ l) = some (dictO es.toArray (μ l))) (hm : (μ l == sysModules) = false)
    (hz : kvs'.length ≤ sizeLine) (hn : (kvs'.map (·.1)).Nodup) (hp : Paired (EnR F.z μ (fr.length + lv.length) (upd H (μ l) (dictO es'.toArray (μ l)))) kvs' es') (hs : Heap.SameBut (μ l) s.heap h') (hg : h'.get? (μ l) = some ({ cls := .type "dict", data := .dict es'.toArray ep } : Obj))
    {Q : Shared → Prop} (q : After X F pins σ μ H fr lv l (.dct kvs' false) Q) : Q { s with heap := h', toks := t' } := by
  have hll := look_lt e
  have I' := I.write (x := μ l) (e := μ l) (o := dictO es'.toArray (μ l)) (h' := h') (t' := t') (by rw [ho]; exact True.intro) (.inl rfl) (fun b u hb z => (hs.2 b hb).trans z) ⟨_, hg⟩ (dict_ok hg)
  obtain ⟨r2, g2, e2⟩ := r.put (l := l) (o' := .dct kvs' false) (ho := dictO es'.toArray (μ l)) (put_some hl hll) (fun u hu => by
    rw [ho] at hu
    cases hu
    exact ⟨fun xs => dictO_ne_tup, fun a b => dictO_ne_frz, fun xs z => by unfold dictO at z; cases z⟩) ⟨hm, hz, hn, es', hp, by rw [if_pos ⟨rfl, rfl⟩]; exact upd_same⟩
  exact q _ _ _ (put_some hl hll) r2 g2 I'
theorem x_grow {kvs : List (D × D)} {xs : List Ent} {f : Nat} (g : Grow f μ n H μ' n' H') (h : Paired (xPair Z μ n H) kvs xs) : Paired (xPair Z μ' n' H') kvs xs :=
  pairedG (fun p x q => ⟨q.1, q.2.1, let ⟨v, a, b⟩ := q.2.2.1; ⟨v, a, Rp.grow g _ _ b⟩, let ⟨v, a, b⟩ := q.2.2.2; ⟨v, a, Rp.grow g _ _ b⟩⟩) h
/-- a dict that has changed -/
theorem after_x (ft : Fits X F) {h' : Heap} {t' : Nat} (I : Inv X pins σ H s) (r : Rel F.z μ H fr lv) {l : Nat} {kvs kvs' : List (D × D)} {xs' : List Ent} (hl : fr.length ≤ l) (e : look fr lv l = some (.dct kvs false)) (hz : kvs'.length ≤ sizeLine)
    (hp : Paired (xPair F.z μ (fr.length + lv.length) H) kvs' xs') (hs : Heap.SameBut (μ l) s.heap h') (hg : DictX X.w h' (μ l) xs') {Q : Shared → Prop} (q : After X F pins σ μ H fr lv l (.dct kvs' false) Q) : Q { s with heap := h', toks := t' } := by
  obtain ⟨es, a1, a2, a3, a4, a5⟩ := dct_live r hl e
  obtain ⟨ep, ho⟩ := hg.at_
  have gu : Grow 0 μ (fr.length + lv.length) H μ (fr.length + lv.length) (upd H (μ l) (dictO (xs'.map (entO X.w)).toArray (μ l))) := grow_upd a5 (fun _ => dictO_ne_tup) (fun _ _ => dictO_ne_frz) (fun _ z => by unfold dictO at z; cases z)
  exact after_dict (es' := xs'.map (entO X.w)) I r hl e a5 a1 hz (by rw [← x_keys hp]; exact hg.nd) (ofX ft.w.symm (x_grow gu hp)) hs ho q
theorem live_x (ft : Fits X F) (I : Inv X pins σ H s) (r : Rel F.z μ H fr lv) {l : Nat} {kvs : List (D × D)} (e : look fr lv l = some (.dct kvs false)) :
    ∃ xs, (μ l == sysModules) = false ∧ kvs.length ≤ sizeLine ∧ Paired (xPair F.z μ (fr.length + lv.length) H) kvs xs ∧ xs.length ≤ sizeLine ∧ DictX X.w s.heap (μ l) xs := by
  obtain ⟨xs, h1, h2, h3, h4, h5, m⟩ := dictX ft I r e
  exact ⟨xs, h1, h2, h4, by rw [← Paired.length h4]; exact h2, m⟩
/-- d[k] = x -/
theorem dd_set (ft : Fits X F) (I : Inv X pins σ H s) (r : Rel F.z μ H fr lv) {l : Nat} {kvs : List (D × D)} (hl : fr.length ≤ l) (e : look fr lv l = some (.dct kvs false)) {k d : D} {v dv : V} {u du : Value} (hf : D.key keyDepth k = true) (hsz : kvs.length < lineMax) (hk : Rp F.z μ (fr.length + lv.length) H k v) (ru : RelV v u)
    (hd : Rp F.z μ (fr.length + lv.length) H d dv) (rd : RelV dv du) {Q : Unit → Shared → Prop} (q : After X F pins σ μ H fr lv l (.dct (kvPut kvs k d) false) (Q ())) : wpAny (model X.prog X.w) X.A (setItem (.ref (μ l)) u du) Q E s := by
  obtain ⟨xs, h1, h2, h4, h5, m⟩ := live_x ft I r e
  have hlm := lineMax_le
  have hpl := kvPut_len kvs k d
  exact dx_setItem (room_nest ft.un) ⟨hf, nk_of I ft.K hf hk ru⟩ m h5 fun h' t m' hs => after_x ft I r hl e (by omega) (putXs h4 hf ru hk rd hd) hs m' q
/-- d.pop(k), there -/
theorem dd_pop (ft : Fits X F) (I : Inv X pins σ H s) (r : Rel F.z μ H fr lv) {l : Nat} {kvs : List (D × D)} (hl : fr.length ≤ l) (e : look fr lv l = some (.dct kvs false)) {k d : D} {v : V} {u : Value} (hf : D.key keyDepth k = true) (hk : Rp F.z μ (fr.length + lv.length) H k v) (ru : RelV v u)
    (hd : kvGet kvs k = some d) {Q : Value → Shared → Prop} (q : ∀ w', (∃ v, RelV v w' ∧ Rp F.z μ (fr.length + lv.length) H d v) → After X F pins σ μ H fr lv l (.dct (kvDel kvs k) false) (Q w')) : wpAny (model X.prog X.w) X.A (call (.builtin "dict.pop") [.ref (μ l), u]) Q E s := by
  obtain ⟨xs, h1, h2, h4, h5, m⟩ := live_x ft I r e
  obtain ⟨p, v', a1, a2, a3⟩ := (getXs h4 k).1 d hd
  have hpl := kvDel_len kvs k
  exact dx_pop (room_nest ft.un) ⟨hf, nk_of I ft.K hf hk ru⟩ m h5 a1 fun h' t m' hs => after_x ft I r hl e (by omega) (delXs h4 k) hs m' (q p.2 ⟨v', a2, a3⟩)
/-- d.setdefault(k, x) -/
theorem dd_default (ft : Fits X F) (I : Inv X pins σ H s) (r : Rel F.z μ H fr lv) {l : Nat} {kvs : List (D × D)} (hl : fr.length ≤ l) (e : look fr lv l = some (.dct kvs false)) {k d : D} {v dv : V} {u du : Value} (hf : D.key keyDepth k = true) (hsz : kvs.length < lineMax) (hk : Rp F.z μ (fr.length + lv.length) H k v) (ru : RelV v u)
    (hd : Rp F.z μ (fr.length + lv.length) H d dv) (rd : RelV dv du) {Q : Value → Shared → Prop} (q1 : ∀ d' w' s', kvGet kvs k = some d' → (∃ v, RelV v w' ∧ Rp F.z μ (fr.length + lv.length) H d' v) → Inv X pins σ H s' → Q w' s')
    (q2 : kvGet kvs k = none → After X F pins σ μ H fr lv l (.dct (kvPut kvs k d) false) (Q du)) : wpAny (model X.prog X.w) X.A (call (.builtin "dict.setdefault") [.ref (μ l), u, du]) Q E s := by
  obtain ⟨xs, h1, h2, h4, h5, m⟩ := live_x ft I r e
  have hlm := lineMax_le
  have hpl := kvPut_len kvs k d
  have hn : getX xs k = none → kvGet kvs k = none := fun hn => by
    cases eg : kvGet kvs k with
    | none => rfl
    | some d' =>
      obtain ⟨p, v', a1, _⟩ := (getXs h4 k).1 d' eg
      rw [hn] at a1
      cases a1
  refine dx_callDef (room_nest ft.un) ⟨hf, nk_of I ft.K hf hk ru⟩ h1 m h5 (fun p t hp => ?_) fun hp h' t m' hs => after_x ft I r hl e (by omega) (putXs h4 hf ru hk rd hd) hs m' (q2 (hn hp))
  cases eg : kvGet kvs k with
  | none =>
    rw [(getXs h4 k).2 eg] at hp
    cases hp
  | some d' =>
    obtain ⟨p', v', a1, a2, a3⟩ := (getXs h4 k).1 d' eg
    rw [a1] at hp
    cases hp
    exact q1 d' _ _ eg ⟨v', a2, a3⟩ (I.tok t)
end
end Sv
end -- Dd
section -- Sem6
set_option Elab.async false
set_option linter.all false
set_option maxRecDepth 100000
set_option maxHeartbeats 2000000
/-! # In, not in -/
namespace Sv
open PySem PySem.Spec PyProof.Rows L2

section
variable {X : Cx} {F : Fm} {pins : List (Addr × Obj)} {s : Shared} {σ : L2.St} {H : Hp} {μ : Nat → Addr} {fr lv : Sto}
theorem one_sign (y : Str) (h : y.length = 1) : ∃ c, y = ⟨#[c]⟩ := by
  obtain ⟨⟨l⟩⟩ := y
  have h : l.length = 1 := h
  match l, h with
  | [c], _ => exact ⟨c, rfl⟩
/-- what `in` and `not in` answer -/
def InAt (X : Cx) (pins : List (Addr × Obj)) (σ : L2.St) (H : Hp) (s : Shared) (v u : Value) (b : Bool) : Prop :=
  (∀ Q : VK, Q (.bl b) H → wpAny (model X.prog X.w) X.A (compareOp .In v u) (EP X pins σ Q) X.xe s) ∧ ∀ Q : VK, Q (.bl (!b)) H → wpAny (model X.prog X.w) X.A (compareOp .NotIn v u) (EP X pins σ Q) X.xe s
theorem isIn_at (ft : Fits X F) (I : Inv X pins σ H s) (r : Rel F.z μ H fr lv) {dx dy : D} {x y : V} {v u : Value} {b : Bool} (px : Rp F.z μ (fr.length + lv.length) H dx x) (py : Rp F.z μ (fr.length + lv.length) H dy y) (rx : RelV x v) (ry : RelV y u)
    (e : isIn fr lv dx dy = some b) : InAt X pins σ H s v u b := by
  have hu := ft.un
  have seq : ∀ {ys : List D} {vs : List V} {b : Bool}, Rps F.z μ (fr.length + lv.length) H ys vs → (match pd fr lv pdDepth dx, ys.mapM (pd fr lv pdDepth) with
      | some a, some bs => some (bs.any fun b => b.eqv a)
      | _, _ => none) = some b → ∃ p ps as, Reads s.heap v p as ∧ p.canLay0 = true ∧ p.depth ≤ 24 ∧ DpAll X.K H vs ps ∧ PyData.canLayAll0 ps = true ∧ b = ps.any fun z => z.eqv p := fun {ys vs b} hys e => by
    cases e1 : pd fr lv pdDepth dx with
    | none => rw [e1] at e; cases e
    | some p =>
      cases e2 : ys.mapM (pd fr lv pdDepth) with
      | none => rw [e1, e2] at e; cases e
      | some ps =>
        rw [e1, e2] at e
        obtain ⟨a1, a2, as, a3⟩ := data_of ft I r px rx e1
        obtain ⟨b1, b2, _⟩ := pd_all (fun d v x => pd_dp r pdDepth d v x) ys vs ps hys e2
        rw [← ft.K] at b1
        exact ⟨p, ps, as, a3, a1, a2, b1, b2, (Option.some.inj e).symm⟩
  have room : ∀ {ps : List PyData} {p : PyData}, p.depth ≤ 24 → X.A.units + 1 + min (PyData.depthAll ps) p.depth < cLine := fun {ps p} h => by
    have : min (PyData.depthAll ps) p.depth ≤ p.depth := Nat.min_le_right _ _
    omega
  have gen : (match listAt fr lv dy, dictAt fr lv dy with
    | some ys, _ => match pd fr lv pdDepth dx, ys.mapM (pd fr lv pdDepth) with
      | some a, some bs => some (bs.any fun b => b.eqv a)
      | _, _ => none
    | none, some kvs => if D.key keyDepth dx then some (kvGet kvs dx).isSome else none
    | none, none => none) = some b → InAt X pins σ H s v u b := fun e => by
    cases e1 : listAt fr lv dy with
    | some ys =>
      rw [e1] at e
      obtain ⟨a, vs, rfl, h1, h2⟩ := listAt_of r py e1
      obtain ⟨p, ps, as, q1, q2, q3, q4, q5, rfl⟩ := seq h2 e
      obtain ⟨bs, k⟩ := Dp.reads I (.list ps) (.ref a) u (.lst (.inl h1) q4) ry
      exact ⟨fun Q q => SeqAt.in_list_reads k q1 q5 q2 (room q3) ⟨.bl _, H, I, rfl, q⟩, fun Q q => SeqAt.notIn_list_reads k q1 q5 q2 (room q3) ⟨.bl _, H, I, rfl, q⟩⟩
    | none =>
      rw [e1] at e
      cases e2 : dictAt fr lv dy with
      | none => rw [e2] at e; cases e
      | some kvs =>
        rw [e2] at e
        simp only at e
        split at e
        · rename_i c
          have eb := (Option.some.inj e).symm
          subst eb
          cases dy with
          | ref l =>
            simp only [dictAt] at e2
            cases q : look fr lv l with
            | none => rw [q] at e2; cases e2
            | some o =>
              rw [q] at e2
              cases o with
              | dct ks lk =>
                cases e2
                simp only [Rp] at py
                obtain ⟨_, rfl⟩ := py
                obtain rfl : u = Value.ref (μ l) := ry
                obtain ⟨g1, g2⟩ := dd_in (E := X.xe) ft I r q c px rx
                exact ⟨fun Q k => g1 _ fun s' I' => ⟨.bl _, H, I', rfl, k⟩, fun Q k => g2 _ fun s' I' => ⟨.bl _, H, I', rfl, k⟩⟩
              | _ => cases e2
          | _ => cases e2
        · cases e
  cases dy with
  | str z =>
    cases dx with
    | str y =>
      have e : (if y.length = 1 then some (z.cps.toList.any fun q => y.cps.toList.any fun r => q == r) else none) = some b := e
      split at e
      · rename_i hc
        obtain ⟨c, rfl⟩ := one_sign y hc
        have := rp_str px; subst this
        have := rp_str py; subst this
        have eb : b = decide (c ∈ z.cps.toList) := by
          rw [← Option.some.inj e, Bool.eq_iff_iff]
          simp
          rw [Array.mem_iff_getElem]
        subst eb
        exact ⟨fun Q q => op_in_sign pins s σ H _ _ v u Q I rx ry ⟨c, z, rfl, rfl, q⟩, fun Q q => op_notIn_sign pins s σ H _ _ v u Q I rx ry ⟨c, z, rfl, rfl, q⟩⟩
      · cases e
    | _ => cases e
  | tup ys =>
    obtain ⟨a, vs, rfl, h1, h2⟩ := rp_tup py
    obtain ⟨p, ps, as, q1, q2, q3, q4, q5, rfl⟩ := seq h2 e
    rw [← ft.K] at h1
    obtain ⟨bs, k⟩ := Dp.reads I (.tuple ps) (.ref a) u (.tup h1 q4) ry
    exact ⟨fun Q q => SeqAt.in_tuple_reads k q1 q5 q2 (room q3) ⟨.bl _, H, I, rfl, q⟩, fun Q q => SeqAt.notIn_tuple_reads k q1 q5 q2 (room q3) ⟨.bl _, H, I, rfl, q⟩⟩
  | non => exact gen e
  | bl k => exact gen e
  | int i => exact gen e
  | ref l => exact gen e
theorem op_in' (ft : Fits X F) : OpR X (compareOp .In) (rP F fun fr lv x y => .of ((cop fr lv .isin x y).map .bl) lv) := fun pins s σ H x y v u Q I rx ry ⟨σ', μ, fr, lv, dx, dy, r, px, py, g⟩ => by
  obtain ⟨b, e, q⟩ := go_bl g r
  exact (isIn_at ft I r px py rx ry e).1 Q q
theorem op_notin' (ft : Fits X F) : OpR X (compareOp .NotIn) (rP F fun fr lv x y => .of ((cop fr lv .notin x y).map .bl) lv) := fun pins s σ H x y v u Q I rx ry ⟨σ', μ, fr, lv, dx, dy, r, px, py, g⟩ => by
  obtain ⟨b, e, q⟩ := go_bl g r
  obtain ⟨b', e', rfl⟩ := Option.map_eq_some_iff.mp e
  exact (isIn_at ft I r px py rx ry e').2 Q q
/-- all comparisons -/
theorem op_cop (ft : Fits X F) : ∀ (op : CmpOp), OpR X (compareOp op) (rP F fun fr lv x y => .of ((cop fr lv (copOf op) x y).map .bl) lv)
  | .Eq => op_eq' ft
  | .NotEq => op_ne' ft
  | .Lt => op_lt' ft
  | .LtE => op_le' ft
  | .Gt => op_gt'
  | .GtE => op_ge' ft
  | .Is => op_is'
  | .IsNot => op_isnot'
  | .In => op_in' ft
  | .NotIn => op_notin' ft
theorem op_bop (ft : Fits X F) : ∀ (op : Operator) (o : Bop), bopOf op = some o → OpR X (binaryOp op) (rP F fun fr lv => bop fr lv o) := fun op o h => by
  cases op <;> simp only [bopOf, Option.some.injEq, reduceCtorEq] at h <;> subst h
  · exact op_add' ft
  · exact op_sub'
  · exact op_mul' ft
  · exact op_mod'
  · exact op_pow'
  · exact op_fdiv'
end
end Sv
end -- Sem6
section -- Sem7
set_option Elab.async false
set_option linter.all false
set_option maxRecDepth 100000
set_option maxHeartbeats 2000000
/-! # Expressions -/
namespace Sv
open PySem PySem.Spec PyProof.Rows L2

abbrev evm (G : Orc) (c : C) : Mt D := fun ρ φ η fr lv => ev G fr φ η c ρ lv
abbrev evsm (G : Orc) (cs : List C) : Mt (List D) := fun ρ φ η fr lv => evs G fr φ η cs ρ lv
/-- a test -/
abbrev evb (G : Orc) (c : C) : Mt Bool := fun ρ φ η fr lv => (ev G fr φ η c ρ lv).bind fun x s => asBool x s

section
variable {X : Cx} {F : Fm} {G : Orc}
/-- one after the other -/
theorem teo_bind {α : Type} (ft : Fits X F) {ma : Mt D} {k : D → Mt α} {β : Type} {Y : (Nat → Addr) → Nat → Hp → α → β → Prop} {σ : L2.St} {H : Hp} {Q : β → Hp → Prop}
    (h : ∃ μ ρ φ η fr lv, Here F σ H μ ρ φ η fr lv ∧ Go F Y σ H μ fr lv ((ma ρ φ η fr lv).bind fun x s => k x ρ φ η fr s) Q) :
    TEo F ma σ H fun x H1 => ∃ d μ ρ φ η fr s, Here F σ H1 μ ρ φ η fr s ∧ Rp F.z μ (fr.length + s.length) H1 d x ∧ Go F Y σ H1 μ fr s (k d ρ φ η fr s) Q := by
  obtain ⟨μ, ρ, φ, η, fr, lv, he, g⟩ := h
  refine ⟨μ, ρ, φ, η, fr, lv, he, (Go.bind (Y := YV F) g).imp fun x H1 ⟨d, s, μ1, e, r1, g1, y1, k1⟩ => ?_⟩
  exact ⟨d, μ1, ρ, φ, η, fr, s, he.grow ft.clo r1 g1, y1, k1⟩
theorem tao_bind {α : Type} (ft : Fits X F) {ma : Mt (List D)} {k : List D → Mt α} {β : Type} {Y : (Nat → Addr) → Nat → Hp → α → β → Prop} {σ : L2.St} {H : Hp} {Q : β → Hp → Prop}
    (h : ∃ μ ρ φ η fr lv, Here F σ H μ ρ φ η fr lv ∧ Go F Y σ H μ fr lv ((ma ρ φ η fr lv).bind fun x s => k x ρ φ η fr s) Q) :
    TAo F ma σ H fun xs H1 => ∃ ds μ ρ φ η fr s, Here F σ H1 μ ρ φ η fr s ∧ Rps F.z μ (fr.length + s.length) H1 ds xs ∧ Go F Y σ H1 μ fr s (k ds ρ φ η fr s) Q := by
  obtain ⟨μ, ρ, φ, η, fr, lv, he, g⟩ := h
  refine ⟨μ, ρ, φ, η, fr, lv, he, (Go.bind (Y := YL F) g).imp fun x H1 ⟨d, s, μ1, e, r1, g1, y1, k1⟩ => ?_⟩
  exact ⟨d, μ1, ρ, φ, η, fr, s, he.grow ft.clo r1 g1, y1, k1⟩
theorem tto_bind {α : Type} (ft : Fits X F) {ma : Mt Bool} {k : Bool → Mt α} {β : Type} {Y : (Nat → Addr) → Nat → Hp → α → β → Prop} {σ : L2.St} {H : Hp} {Q : β → Hp → Prop}
    (h : ∃ μ ρ φ η fr lv, Here F σ H μ ρ φ η fr lv ∧ Go F Y σ H μ fr lv ((ma ρ φ η fr lv).bind fun x s => k x ρ φ η fr s) Q) :
    TTo F ma σ H fun b H1 => ∃ μ ρ φ η fr s, Here F σ H1 μ ρ φ η fr s ∧ Go F Y σ H1 μ fr s (k b ρ φ η fr s) Q := by
  obtain ⟨μ, ρ, φ, η, fr, lv, he, g⟩ := h
  refine ⟨μ, ρ, φ, η, fr, lv, he, (Go.bind (Y := fun _ _ _ a b => a = b) g).imp fun x H1 ⟨d, s, μ1, e, r1, g1, y1, k1⟩ => ?_⟩
  obtain rfl := y1
  exact ⟨μ1, ρ, φ, η, fr, s, he.grow ft.clo r1 g1, k1⟩
/-- .. with the frame at hand -/
theorem te_seq (ft : Fits X F) {ma : Mt D} {α β : Type} {Y : (Nat → Addr) → Nat → Hp → α → β → Prop} {σ : L2.St} {H : Hp} {Q : β → Hp → Prop} {μ : Nat → Addr} {ρ : Env} {φ : List FV} {η : Option (Nat × List D)} {fr lv : Sto} {f : D → Sto → R α}
    (hh : Here F σ H μ ρ φ η fr lv) (g : Go F Y σ H μ fr lv ((ma ρ φ η fr lv).bind f) Q) :
    TEo F ma σ H fun x H1 => ∃ d s μ1, Here F σ H1 μ1 ρ φ η fr s ∧ Rp F.z μ1 (fr.length + s.length) H1 d x ∧ Go F Y σ H1 μ1 fr s (f d s) Q :=
  ⟨μ, ρ, φ, η, fr, lv, hh, (Go.bind (Y := YV F) g).imp fun x H1 ⟨d, s, μ1, e, r1, g1, y1, k1⟩ => ⟨d, s, μ1, hh.grow ft.clo r1 g1, y1, k1⟩⟩
theorem ta_seq (ft : Fits X F) {ma : Mt (List D)} {α β : Type} {Y : (Nat → Addr) → Nat → Hp → α → β → Prop} {σ : L2.St} {H : Hp} {Q : β → Hp → Prop} {μ : Nat → Addr} {ρ : Env} {φ : List FV} {η : Option (Nat × List D)} {fr lv : Sto} {f : List D → Sto → R α}
    (hh : Here F σ H μ ρ φ η fr lv) (g : Go F Y σ H μ fr lv ((ma ρ φ η fr lv).bind f) Q) :
    TAo F ma σ H fun x H1 => ∃ d s μ1, Here F σ H1 μ1 ρ φ η fr s ∧ Rps F.z μ1 (fr.length + s.length) H1 d x ∧ Go F Y σ H1 μ1 fr s (f d s) Q :=
  ⟨μ, ρ, φ, η, fr, lv, hh, (Go.bind (Y := YL F) g).imp fun x H1 ⟨d, s, μ1, e, r1, g1, y1, k1⟩ => ⟨d, s, μ1, hh.grow ft.clo r1 g1, y1, k1⟩⟩
theorem _root_.Sv.TEo.mono {m : Mt D} {σ : L2.St} {H : Hp} {Q Q' : VK} (h : TEo F m σ H Q) (i : ∀ x H', Q x H' → Q' x H') : TEo F m σ H Q' := by
  obtain ⟨μ, ρ, φ, η, fr, lv, hh, g⟩ := h
  exact ⟨μ, ρ, φ, η, fr, lv, hh, g.imp i⟩
theorem _root_.Sv.TAo.mono {m : Mt (List D)} {σ : L2.St} {H : Hp} {Q Q' : List V → Hp → Prop} (h : TAo F m σ H Q) (i : ∀ x H', Q x H' → Q' x H') : TAo F m σ H Q' := by
  obtain ⟨μ, ρ, φ, η, fr, lv, hh, g⟩ := h
  exact ⟨μ, ρ, φ, η, fr, lv, hh, g.imp i⟩
theorem go_mono {α β : Type} {Y : (Nat → Addr) → Nat → Hp → α → β → Prop} {σ : L2.St} {H : Hp} {μ : Nat → Addr} {fr lv : Sto} {x y : R α} {Q : β → Hp → Prop} (e : x = y) (h : Go F Y σ H μ fr lv x Q) : Go F Y σ H μ fr lv y Q := e ▸ h

/-! ### constants, names -/
theorem pd_con {e : Expr} {d : D} {v : V} (h : PE X e (tC v)) (hv : ∀ μ n H, Rp F.z μ n H d v) : PE X e (TEo F (evm G (.con d))) :=
  h.imp fun σ H Q ⟨μ, ρ, φ, η, fr, lv, he, g⟩ => by
    have g : Go F (YV F) σ H μ fr lv (.ok d lv) Q := by simpa only [evm, ev] using g
    exact g.now he.rel (hv _ _ _)
theorem pd_var' {e : Expr} {i : Nat} (h : PE X e (tVar i)) : PE X e (TEo F (evm G (.var i))) := (pd_var (F := F) h).imp fun σ H Q ⟨μ, ρ, φ, η, fr, lv, he, g⟩ => ⟨μ, ρ, φ, η, fr, lv, he, by simpa only [evm, ev, mVar] using g⟩

/-! ### argument lists -/
theorem pd_nil : PA X [] (TAo F (evsm G [])) := pa_nil.imp fun σ H Q ⟨μ, ρ, φ, η, fr, lv, he, g⟩ => by
  have g : Go F (YL F) σ H μ fr lv (.ok [] lv) Q := by simpa only [evsm, evs] using g
  exact g.now he.rel (by simp only [YL, Rps])
theorem pd_cons (ft : Fits X F) {e : Expr} {es : List Expr} {c : C} {cs : List C} (he : PE X e (TEo F (evm G c))) (hr : PA X es (TAo F (evsm G cs))) (hs : starEach (e :: es) X.env = (false, eval e X.env) :: starEach es X.env) : PA X (e :: es) (TAo F (evsm G (c :: cs))) :=
  (pa_cons he hr hs).imp fun σ H Q ⟨μ, ρ, φ, η, fr, lv, hh, g⟩ => by
    have g : Go F (YL F) σ H μ fr lv ((ev G fr φ η c ρ lv).bind fun d s => (evs G fr φ η cs ρ s).bind fun ds s => .ok (d :: ds) s) Q := by simpa only [evsm, evs] using g
    have t := teo_bind (ma := evm G c) (k := fun d ρ φ η fr s => (evs G fr φ η cs ρ s).bind fun ds s => .ok (d :: ds) s) ft ⟨μ, ρ, φ, η, fr, lv, hh, g⟩
    obtain ⟨μ, ρ, φ, η, fr, lv, hh, g⟩ := t
    refine ⟨μ, ρ, φ, η, fr, lv, hh, g.imp fun x H1 ⟨d, μ1, ρ1, φ1, η1, fr1, s1, h1, r1, k1⟩ => ?_⟩
    refine ⟨μ1, ρ1, φ1, η1, fr1, s1, h1, (Go.bind (Y := YL F) k1).imp fun xs H2 ⟨ds, s2, μ2, e2, r2, g2, y2, k2⟩ => ?_⟩
    exact k2.now r2 (by simp only [YL, Rps]; exact ⟨x, xs, rfl, Rp.grow g2 _ _ r1, y2⟩)
/-! ### displays -/
theorem pd_tup (ft : Fits X F) {es : List Expr} {cs : List C} {x1} {pos : Pos} (h : PA X es (TAo F (evsm G cs))) : PE X (.Tuple es x1 pos) (TEo F (evm G (.tup cs))) :=
  (pe_tup h).imp fun σ H Q ⟨μ, ρ, φ, η, fr, lv, hh, g⟩ => by
    have g : Go F (YV F) σ H μ fr lv ((evs G fr φ η cs ρ lv).bind fun ds s => newT s ds) Q := by simpa only [evm, ev] using g
    obtain ⟨μ, ρ, φ, η, fr, lv, hh, g⟩ := tao_bind (ma := evsm G cs) (k := fun ds _ _ _ _ s => newT s ds) ft ⟨μ, ρ, φ, η, fr, lv, hh, g⟩
    refine ⟨μ, ρ, φ, η, fr, lv, hh, g.imp fun xs H1 ⟨ds, μ1, ρ1, φ1, η1, fr1, s1, h1, r1, k1⟩ => ?_⟩
    unfold newT at k1
    split at k1
    · rename_i c
      exact ⟨by rw [← r1.length]; exact Nat.le_trans c lineMax_le, fun p hp => Go.tup k1 h1.rel r1 hp⟩
    · exact k1.elim
theorem pd_lst (ft : Fits X F) {es : List Expr} {cs : List C} {pos : Pos} (h : PA X es (TAo F (evsm G cs))) : PE X (.List es pos) (TEo F (evm G (.lst cs))) :=
  (pe_lst h).imp fun σ H Q ⟨μ, ρ, φ, η, fr, lv, hh, g⟩ => by
    have g : Go F (YV F) σ H μ fr lv ((evs G fr φ η cs ρ lv).bind fun ds s => newL fr s ds) Q := by simpa only [evm, ev] using g
    obtain ⟨μ, ρ, φ, η, fr, lv, hh, g⟩ := tao_bind (ma := evsm G cs) (k := fun ds _ _ _ fr s => newL fr s ds) ft ⟨μ, ρ, φ, η, fr, lv, hh, g⟩
    refine ⟨μ, ρ, φ, η, fr, lv, hh, g.imp fun xs H1 ⟨ds, μ1, ρ1, φ1, η1, fr1, s1, h1, r1, k1⟩ => ?_⟩
    unfold newL at k1
    split at k1
    · rename_i c
      exact ⟨by rw [← r1.length]; exact Nat.le_trans c lineMax_le, fun p hp => Go.lst k1 h1.rel r1 hp⟩
    · exact k1.elim
/-! ### operators -/
theorem pd_bin (ft : Fits X F) {a b : Expr} {ca cb : C} {op : Operator} {o : Bop} {pos : Pos} (ho : bopOf op = some o) (ha : PE X a (TEo F (evm G ca))) (hb : PE X b (TEo F (evm G cb))) : PE X (.BinOp a op b pos) (TEo F (evm G (.bin o ca cb))) :=
  (pd_op ft (op_bop ft op o ho) ha hb).imp fun σ H Q ⟨μ, ρ, φ, η, fr, lv, hh, g⟩ => ⟨μ, ρ, φ, η, fr, lv, hh, by simpa only [evm, ev, mBin] using g⟩
theorem pd_cmp' (ft : Fits X F) {a b : Expr} {ca cb : C} {op : CmpOp} {pos : Pos} (hm : behindInMarks op b = false) (ha : PE X a (TEo F (evm G ca))) (hb : PE X b (TEo F (evm G cb))) : PE X (.Compare a [op] [b] pos) (TEo F (evm G (.cmp (copOf op) ca cb))) :=
  (pd_cmp ft (op_cop ft op) hm ha hb).imp fun σ H Q ⟨μ, ρ, φ, η, fr, lv, hh, g⟩ => ⟨μ, ρ, φ, η, fr, lv, hh, by simpa only [evm, ev, mBin] using g⟩
/-- a bool that is told, as a test -/
theorem go_test {m : R D} {σ : L2.St} {H : Hp} {μ : Nat → Addr} {fr lv : Sto} {Q : Bool → Hp → Prop} (h : Go F (fun _ _ _ a b => a = b) σ H μ fr lv (m.bind fun x s => asBool x s) Q) : Go F (YV F) σ H μ fr lv m fun x H' => ∃ k, x = .bl k ∧ Q k H' := by
  refine (Go.bind (Y := YV F) h).imp fun x H1 ⟨d, s, μ1, e, r1, g1, y1, k1⟩ => ?_
  cases d with
  | bl b => exact ⟨b, rp_bl y1, k1.now r1 rfl⟩
  | _ => exact k1.elim
theorem pt_of_pe {e : Expr} {c : C} (h : PE X e (TEo F (evm G c))) (he : ∀ whole, isTrue e X.env whole = (do let v ← whole; standAt e.pos; holding [v] (truthy v))) : PT X e (TTo F (evb G c)) :=
  (pt_val h he).imp fun σ H Q ⟨μ, ρ, φ, η, fr, lv, hh, g⟩ => ⟨μ, ρ, φ, η, fr, lv, hh, go_test g⟩
theorem pd_tcmp (ft : Fits X F) {a b : Expr} {ca cb : C} {op : CmpOp} {pos : Pos} (hm : behindInMarks op b = false) (ha : PE X a (TEo F (evm G ca))) (hb : PE X b (TEo F (evm G cb))) : PT X (.Compare a [op] [b] pos) (TTo F (evb G (.cmp (copOf op) ca cb))) :=
  (pt_cmpR (op_cop ft op) ha hb hm).imp fun σ H Q ⟨μ, ρ, φ, η, fr, lv, hh, g⟩ => by
    have g' := go_test g
    have := bin_of (X := X) (ma := evm G ca) (mb := evm G cb) (p := fun fr lv x y => .of ((cop fr lv (copOf op) x y).map .bl) lv) ft ⟨μ, ρ, φ, η, fr, lv, hh, by simpa only [evm, ev, mBin] using g'⟩
    exact this
/-! ### chains -/
/-- the reading of a chain -/
theorem chain_of (ft : Fits X F) {p q : CmpOp} {ca cb cc : C} {σ : L2.St} {H : Hp} {Q : VK} (h : TEo F (evm G (.chain (copOf p) (copOf q) ca cb cc)) σ H Q) :
    tChain (rP F fun fr lv x y => .of ((cop fr lv (copOf p) x y).map .bl) lv) (rP F fun fr lv x y => .of ((cop fr lv (copOf q) x y).map .bl) lv) (TEo F (evm G ca)) (TEo F (evm G cb)) (TEo F (evm G cc)) σ H Q := by
  obtain ⟨μ, ρ, φ, η, fr, lv, hh, g⟩ := h
  simp only [evm, ev] at g
  refine ⟨μ, ρ, φ, η, fr, lv, hh, (Go.bind (Y := YV F) g).imp fun x H1 ⟨dx, s1, μ1, e1, r1, g1, y1, k1⟩ => ?_⟩
  have h1 := hh.grow ft.clo r1 g1
  refine ⟨μ1, ρ, φ, η, fr, s1, h1, (Go.bind (Y := YV F) k1).imp fun y H2 ⟨dy, s2, μ2, e2, r2, g2, y2, k2⟩ => ?_⟩
  have h2 := h1.grow ft.clo r2 g2
  refine ⟨σ, μ2, fr, s2, dx, dy, r2, Rp.grow g2 _ _ y1, y2, ?_⟩
  cases e : cop fr s2 (copOf p) dx dy with
  | none => simp only [e] at k2; exact k2.elim
  | some k =>
    simp only [e] at k2
    show Go F (YV F) σ H2 μ2 fr s2 (R.of ((cop fr s2 (copOf p) dx dy).map .bl) s2) _
    rw [e]
    intro b H3 μ3 r3 g3 y3
    refine ⟨k, rp_bl y3, ?_⟩
    have h3 := h2.grow ft.clo r3 g3
    cases k with
    | false =>
      have z := Go.back g3 k2
      exact Go.now (F := F) (a := D.bl false) z r3 (rp_sc.1 _)
    | true =>
      have z := Go.back g3 k2
      refine ⟨μ3, ρ, φ, η, fr, s2, h3, (Go.bind (Y := YV F) z).imp fun w H4 ⟨dz, s4, μ4, e4, r4, g4, y4, k4⟩ => ?_⟩
      exact ⟨σ, μ4, fr, s4, dy, dz, r4, Rp.grow g4 _ _ (Rp.grow g3 _ _ y2), y4, k4⟩
theorem pd_chain (ft : Fits X F) {a b c : Expr} {ca cb cc : C} {p q : CmpOp} {pos : Pos} (hm : lastMarks [p, q] [b, c] = false) (ha : PE X a (TEo F (evm G ca))) (hb : PE X b (TEo F (evm G cb))) (hc : PE X c (TEo F (evm G cc))) :
    PE X (.Compare a [p, q] [b, c] pos) (TEo F (evm G (.chain (copOf p) (copOf q) ca cb cc))) :=
  (pe_chain (op_cop ft p) (op_cop ft q) ha hb hc hm).imp fun σ H Q h => chain_of ft h
theorem pd_tchain (ft : Fits X F) {a b c : Expr} {ca cb cc : C} {p q : CmpOp} {pos : Pos} (hm : lastMarks [p, q] [b, c] = false) (ha : PE X a (TEo F (evm G ca))) (hb : PE X b (TEo F (evm G cb))) (hc : PE X c (TEo F (evm G cc))) :
    PT X (.Compare a [p, q] [b, c] pos) (TTo F (evb G (.chain (copOf p) (copOf q) ca cb cc))) :=
  (pt_chain (op_cop ft p) (op_cop ft q) ha hb hc hm).imp fun σ H Q ⟨μ, ρ, φ, η, fr, lv, hh, g⟩ => chain_of ft ⟨μ, ρ, φ, η, fr, lv, hh, go_test g⟩
/-! ### and, or, not, if -/
theorem bool_of (ft : Fits X F) {c : C} {α β : Type} {Y : (Nat → Addr) → Nat → Hp → α → β → Prop} {k : Bool → Mt α} {σ : L2.St} {H : Hp} {Q : β → Hp → Prop}
    (h : ∃ μ ρ φ η fr lv, Here F σ H μ ρ φ η fr lv ∧ Go F Y σ H μ fr lv ((ev G fr φ η c ρ lv).bind fun x s => (asBool x s).bind fun b s => k b ρ φ η fr s) Q) :
    TEo F (evm G c) σ H fun x H1 => ∃ b, x = .bl b ∧ ∃ μ ρ φ η fr s, Here F σ H1 μ ρ φ η fr s ∧ Go F Y σ H1 μ fr s (k b ρ φ η fr s) Q := by
  obtain ⟨μ, ρ, φ, η, fr, lv, hh, g⟩ := teo_bind (ma := evm G c) (k := fun x ρ φ η fr s => (asBool x s).bind fun b s => k b ρ φ η fr s) ft h
  refine ⟨μ, ρ, φ, η, fr, lv, hh, g.imp fun x H1 ⟨d, μ1, ρ1, φ1, η1, fr1, s1, h1, r1, k1⟩ => ?_⟩
  cases d with
  | bl b => exact ⟨b, rp_bl r1, μ1, ρ1, φ1, η1, fr1, s1, h1, k1⟩
  | _ => exact k1.elim
theorem test_of (ft : Fits X F) {c : C} {α β : Type} {Y : (Nat → Addr) → Nat → Hp → α → β → Prop} {k : Bool → Mt α} {σ : L2.St} {H : Hp} {Q : β → Hp → Prop}
    (h : ∃ μ ρ φ η fr lv, Here F σ H μ ρ φ η fr lv ∧ Go F Y σ H μ fr lv ((ev G fr φ η c ρ lv).bind fun x s => (asBool x s).bind fun b s => k b ρ φ η fr s) Q) :
    TTo F (evb G c) σ H fun b H1 => ∃ μ ρ φ η fr s, Here F σ H1 μ ρ φ η fr s ∧ Go F Y σ H1 μ fr s (k b ρ φ η fr s) Q := by
  obtain ⟨μ, ρ, φ, η, fr, lv, hh, g⟩ := h
  refine tto_bind (k := k) ft ⟨μ, ρ, φ, η, fr, lv, hh, ?_⟩
  have : ((ev G fr φ η c ρ lv).bind fun x s => (asBool x s).bind fun b s => k b ρ φ η fr s) = ((ev G fr φ η c ρ lv).bind fun x s => asBool x s).bind fun b s => k b ρ φ η fr s := by
    cases ev G fr φ η c ρ lv <;> rfl
  rw [this] at g
  exact g
theorem pd_and (ft : Fits X F) {a b : Expr} {rest : List Expr} {ca cb : C} {pos : Pos} (ha : PE X a (TEo F (evm G ca))) (hb : PE X (.BoolOp .And (b :: rest) pos) (TEo F (evm G cb))) : PE X (.BoolOp .And (a :: b :: rest) pos) (TEo F (evm G (.and ca cb))) :=
  (pe_and ha hb).imp fun σ H Q ⟨μ, ρ, φ, η, fr, lv, hh, g⟩ => by
    obtain ⟨μ, ρ, φ, η, fr, lv, hh, g⟩ := bool_of (c := ca) (k := fun c ρ φ η fr s => if c then ev G fr φ η cb ρ s else .ok (.bl false) s) ft ⟨μ, ρ, φ, η, fr, lv, hh, by simpa only [evm, ev] using g⟩
    refine ⟨μ, ρ, φ, η, fr, lv, hh, g.imp fun x H1 ⟨k, e, μ1, ρ1, φ1, η1, fr1, s1, h1, k1⟩ => ⟨k, e, ?_⟩⟩
    cases k with
    | true => exact ⟨μ1, ρ1, φ1, η1, fr1, s1, h1, k1⟩
    | false => exact Go.now (F := F) (a := D.bl false) k1 h1.rel (rp_sc.1 _)
theorem pd_or (ft : Fits X F) {a b : Expr} {rest : List Expr} {ca cb : C} {pos : Pos} (ha : PE X a (TEo F (evm G ca))) (hb : PE X (.BoolOp .Or (b :: rest) pos) (TEo F (evm G cb))) : PE X (.BoolOp .Or (a :: b :: rest) pos) (TEo F (evm G (.or ca cb))) :=
  (pe_or ha hb).imp fun σ H Q ⟨μ, ρ, φ, η, fr, lv, hh, g⟩ => by
    obtain ⟨μ, ρ, φ, η, fr, lv, hh, g⟩ := bool_of (c := ca) (k := fun c ρ φ η fr s => if c then .ok (.bl true) s else ev G fr φ η cb ρ s) ft ⟨μ, ρ, φ, η, fr, lv, hh, by simpa only [evm, ev] using g⟩
    refine ⟨μ, ρ, φ, η, fr, lv, hh, g.imp fun x H1 ⟨k, e, μ1, ρ1, φ1, η1, fr1, s1, h1, k1⟩ => ⟨k, e, ?_⟩⟩
    cases k with
    | false => exact ⟨μ1, ρ1, φ1, η1, fr1, s1, h1, k1⟩
    | true => exact Go.now (F := F) (a := D.bl true) k1 h1.rel (rp_sc.1 _)
theorem pd_not (ft : Fits X F) {a : Expr} {ca : C} {pos : Pos} (ha : PE X a (TEo F (evm G ca))) : PE X (.UnaryOp .Not a pos) (TEo F (evm G (.not ca))) :=
  (pe_not ha).imp fun σ H Q ⟨μ, ρ, φ, η, fr, lv, hh, g⟩ => by
    obtain ⟨μ, ρ, φ, η, fr, lv, hh, g⟩ := bool_of (c := ca) (k := fun b _ _ _ _ s => .ok (D.bl (!b)) s) ft ⟨μ, ρ, φ, η, fr, lv, hh, by simpa only [evm, ev] using g⟩
    refine ⟨μ, ρ, φ, η, fr, lv, hh, g.imp fun x H1 ⟨k, e, μ1, ρ1, φ1, η1, fr1, s1, h1, k1⟩ => ⟨k, e, ?_⟩⟩
    exact Go.now (F := F) (a := D.bl (!k)) k1 h1.rel (rp_sc.1 _)
theorem pd_neg (ft : Fits X F) {a : Expr} {ca : C} {pos : Pos} (ha : PE X a (TEo F (evm G ca))) : PE X (.UnaryOp .USub a pos) (TEo F (evm G (.neg ca))) :=
  (pe_un un_neg ha).imp fun σ H Q ⟨μ, ρ, φ, η, fr, lv, hh, g⟩ => by
    simp only [evm, ev] at g
    obtain ⟨μ, ρ, φ, η, fr, lv, hh, g⟩ := te_seq (ma := evm G ca) ft hh g
    refine ⟨μ, ρ, φ, η, fr, lv, hh, g.imp fun x H1 ⟨d, s1, μ1, h1, r1, k1⟩ => ?_⟩
    cases d with
    | int i => exact ⟨i, rp_int r1, Go.now (F := F) (a := D.int (-i)) k1 h1.rel (rp_sc.2.1 _)⟩
    | _ => exact k1.elim
theorem pd_ifx (ft : Fits X F) {t a b : Expr} {ct ca cb : C} {pos : Pos} (ht : PT X t (TTo F (evb G ct))) (ha : PE X a (TEo F (evm G ca))) (hb : PE X b (TEo F (evm G cb))) : PE X (.IfExp t a b pos) (TEo F (evm G (.ifx ct ca cb))) :=
  (pe_ifExp ht ha hb).imp fun σ H Q ⟨μ, ρ, φ, η, fr, lv, hh, g⟩ => by
    obtain ⟨μ, ρ, φ, η, fr, lv, hh, g⟩ := test_of (c := ct) (k := fun c ρ φ η fr s => if c then ev G fr φ η ca ρ s else ev G fr φ η cb ρ s) ft ⟨μ, ρ, φ, η, fr, lv, hh, by simpa only [evm, ev] using g⟩
    refine ⟨μ, ρ, φ, η, fr, lv, hh, g.imp fun k H1 ⟨μ1, ρ1, φ1, η1, fr1, s1, h1, k1⟩ => ?_⟩
    cases k with
    | true => exact ⟨μ1, ρ1, φ1, η1, fr1, s1, h1, k1⟩
    | false => exact ⟨μ1, ρ1, φ1, η1, fr1, s1, h1, k1⟩
/-! ### tests -/
theorem pd_tnot (ft : Fits X F) {a : Expr} {ca : C} {pos : Pos} (ha : PT X a (TTo F (evb G ca))) : PT X (.UnaryOp .Not a pos) (TTo F (evb G (.not ca))) :=
  (pt_not ha).imp fun σ H Q ⟨μ, ρ, φ, η, fr, lv, hh, g⟩ => by
    have g' := go_test g
    obtain ⟨μ, ρ, φ, η, fr, lv, hh, g⟩ := test_of (c := ca) (k := fun b _ _ _ _ s => .ok (D.bl (!b)) s) ft ⟨μ, ρ, φ, η, fr, lv, hh, by simpa only [evm, ev] using g'⟩
    refine ⟨μ, ρ, φ, η, fr, lv, hh, g.imp fun k H1 ⟨μ1, ρ1, φ1, η1, fr1, s1, h1, k1⟩ => ?_⟩
    obtain ⟨k', e, q⟩ := Go.now (F := F) (a := D.bl (!k)) k1 h1.rel (rp_sc.1 (!k))
    cases e
    exact q
theorem pw_one_and {a : Expr} {ca : C} {pos : Pos} (ha : PT X a (TTo F (evb G ca))) : PW X (.BoolOp .And [a] pos) (TTo F (evb G ca)) := pw_and1 ha
theorem pw_one_or {a : Expr} {ca : C} {pos : Pos} (ha : PT X a (TTo F (evb G ca))) : PW X (.BoolOp .Or [a] pos) (TTo F (evb G ca)) := pw_or1 ha
theorem _root_.L2.PW.imp {X : Cx} {e : Expr} {t t' : TT} (h : PW X e t) (i : ∀ σ H Q, t' σ H Q → t σ H Q) : PW X e t' := ⟨fun w pins s σ H Q I q => h.run w pins s σ H Q I (i _ _ _ q)⟩
theorem pd_wand (ft : Fits X F) {a b : Expr} {rest : List Expr} {ca cb : C} {pos : Pos} (ha : PT X a (TTo F (evb G ca))) (hb : PW X (.BoolOp .And (b :: rest) pos) (TTo F (evb G cb))) : PW X (.BoolOp .And (a :: b :: rest) pos) (TTo F (evb G (.and ca cb))) :=
  (pw_and ha hb).imp fun σ H Q ⟨μ, ρ, φ, η, fr, lv, hh, g⟩ => by
    have e : evb G (.and ca cb) ρ φ η fr lv = (ev G fr φ η ca ρ lv).bind fun x s => (asBool x s).bind fun c s => if c then (ev G fr φ η cb ρ s).bind fun x s => asBool x s else .ok false s := by
      simp only [evb, ev]
      cases ev G fr φ η ca ρ lv with
      | ok d s =>
        cases d with
        | bl k => cases k <;> rfl
        | _ => rfl
      | _ => rfl
    rw [e] at g
    obtain ⟨μ, ρ, φ, η, fr, lv, hh, g⟩ := test_of (c := ca) (k := fun c ρ φ η fr s => if c then (ev G fr φ η cb ρ s).bind fun x s => asBool x s else .ok false s) ft ⟨μ, ρ, φ, η, fr, lv, hh, g⟩
    refine ⟨μ, ρ, φ, η, fr, lv, hh, g.imp fun k H1 ⟨μ1, ρ1, φ1, η1, fr1, s1, h1, k1⟩ => ?_⟩
    cases k with
    | true => exact ⟨μ1, ρ1, φ1, η1, fr1, s1, h1, k1⟩
    | false => exact k1.now h1.rel rfl
theorem pd_wor (ft : Fits X F) {a b : Expr} {rest : List Expr} {ca cb : C} {pos : Pos} (ha : PT X a (TTo F (evb G ca))) (hb : PW X (.BoolOp .Or (b :: rest) pos) (TTo F (evb G cb))) : PW X (.BoolOp .Or (a :: b :: rest) pos) (TTo F (evb G (.or ca cb))) :=
  (pw_or ha hb).imp fun σ H Q ⟨μ, ρ, φ, η, fr, lv, hh, g⟩ => by
    have e : evb G (.or ca cb) ρ φ η fr lv = (ev G fr φ η ca ρ lv).bind fun x s => (asBool x s).bind fun c s => if c then .ok true s else (ev G fr φ η cb ρ s).bind fun x s => asBool x s := by
      simp only [evb, ev]
      cases ev G fr φ η ca ρ lv with
      | ok d s =>
        cases d with
        | bl k => cases k <;> rfl
        | _ => rfl
      | _ => rfl
    rw [e] at g
    obtain ⟨μ, ρ, φ, η, fr, lv, hh, g⟩ := test_of (c := ca) (k := fun c ρ φ η fr s => if c then .ok true s else (ev G fr φ η cb ρ s).bind fun x s => asBool x s) ft ⟨μ, ρ, φ, η, fr, lv, hh, g⟩
    refine ⟨μ, ρ, φ, η, fr, lv, hh, g.imp fun k H1 ⟨μ1, ρ1, φ1, η1, fr1, s1, h1, k1⟩ => ?_⟩
    cases k with
    | false => exact ⟨μ1, ρ1, φ1, η1, fr1, s1, h1, k1⟩
    | true => exact k1.now h1.rel rfl
end
end Sv
end -- Sem7
section -- Sem8
set_option Elab.async false
set_option linter.all false
set_option maxRecDepth 100000
set_option maxHeartbeats 2000000
/-! # Places of lists, slices, attributes -/
namespace Sv
open PySem PySem.Spec PyProof.Rows L2

section
variable {X : Cx} {F : Fm} {G : Orc}
theorem dictAt_of {fr lv : Sto} {d : D} {kvs : List (D × D)} (h : dictAt fr lv d = some kvs) : ∃ l lk, d = .ref l ∧ look fr lv l = some (.dct kvs lk) := by
  cases d with
  | ref l =>
    simp only [dictAt] at h
    cases q : look fr lv l with
    | none => rw [q] at h; cases h
    | some o =>
      rw [q] at h
      cases o with
      | dct ks lk => cases h; exact ⟨l, lk, rfl, q⟩
      | _ => cases h
  | _ => cases h
theorem rp_ref {Z : Zx} {μ : Nat → Addr} {n l : Nat} {H : Hp} {v : V} (h : Rp Z μ n H (.ref l) v) : l < n ∧ v = .ref (μ l) := by simpa only [Rp] using h
/-! ### a[i] -/
theorem atI_eq {α : Type} (xs : List α) (i : Int) : Sv.atI xs i = L2.atI xs i := by
  unfold Sv.atI L2.atI ixN
  by_cases h : 0 ≤ i
  · rw [if_pos h, if_pos h]
    split
    · rfl
    · rename_i c
      exact List.getElem?_eq_none (by omega)
  · rw [if_neg h, if_neg h]
    split <;> rfl
theorem ixN_of {n : Nat} {α : Type} {xs : List α} {i : Int} {d : α} (h : Sv.atI xs i = some d) : ∃ j, ixN xs.length i = some j ∧ xs[j]? = some d := by
  rw [atI_eq] at h
  unfold L2.atI at h
  cases e : ixN xs.length i with
  | none => rw [e] at h; cases h
  | some j => rw [e] at h; exact ⟨j, rfl, h⟩
theorem rps_at {Z : Zx} {μ : Nat → Addr} {n : Nat} {H : Hp} {ds : List D} {vs : List V} {i : Int} {d : D} (h : Rps Z μ n H ds vs) (e : Sv.atI ds i = some d) : ∃ v, L2.atI vs i = some v ∧ Rp Z μ n H d v := by
  obtain ⟨j, h1, h2⟩ := ixN_of (n := 0) e
  obtain ⟨v, h3, h4⟩ := h.get h2
  refine ⟨v, ?_, h4⟩
  unfold L2.atI
  rw [← h.length, h1]
  exact h3
theorem subD {value slice : Expr} {s : Shared} {o i : Value} {T id : String} {E : Value → Shared → Prop} {Q : Value → Shared → Prop} (hT : s.TypeIs o T) (hl : typeLookup (.type T) "__getitem__" = pure (some (.builtin id)))
    (h : wpAny (model X.prog X.w) X.A (getItem o i) Q E s) (hs : subscripted slice false o i = operate [o, i] (getItem o i)) : wpAny (model X.prog X.w) X.A (subscriptTail value slice o i) Q E s := by
  unfold subscriptTail
  refine wpAny_bind ?_
  rw [getitemInPython_of_ne hT.not_modules]
  refine wpAny_bind (wpAny_specialOf hT hl ?_)
  have fin : wpAny (model X.prog X.w) X.A (subscripted slice false o i) (fun r s₃ => wpAny (model X.prog X.w) X.A (letTemporaryGo value o r >>= fun _ => pure r) Q E s₃) E s := by
    rw [hs]
    exact wpAny_operating (thn h fun r s₃ h₃ => wpAny_bind (wpAny_letTemporaryGo (wpAny_pure h₃)))
  first
    | exact wpAny_pure (wpAny_bind fin)
    | exact wpAny_bind (wpAny_pure (wpAny_bind fin))
    | exact wpAny_bind fin
theorem go_of {o : Option D} {σ : L2.St} {H : Hp} {μ : Nat → Addr} {fr lv : Sto} {Q : VK} (g : Go F (YV F) σ H μ fr lv (R.of o lv) Q) (r : Rel F.z μ H fr lv) : ∃ d, o = some d ∧ ∀ v, Rp F.z μ (fr.length + lv.length) H d v → Q v H := by
  cases o with
  | none => exact g.elim
  | some d => exact ⟨d, rfl, fun v h => Go.now (F := F) (a := d) g r h⟩
theorem ix_all (ft : Fits X F) : IxR X (rP F fun fr lv x y => .of (idxD fr lv x y) lv) := fun value slice pins s σ H x y v u Q I rx ry ⟨σ', μ, fr, lv, dx, dy, r, px, py, g⟩ hs => by
  obtain ⟨d, e, q⟩ := go_of g r
  have lists : ∀ {xs : List D} {a : Addr} {vs : List V}, (SqL X.K H a vs ∨ SqT X.K H a vs) → x = .ref a → Rps F.z μ (fr.length + lv.length) H xs vs → ((intOf dy).bind fun k => Sv.atI xs k) = some d → wpAny (model X.prog X.w) X.A (subscriptTail value slice v u) (EP X pins σ Q) X.xe s := fun {xs a vs} hq hx hr e => by
    obtain ⟨k, ek, e⟩ := Option.bind_eq_some_iff.mp e
    cases dy with
    | int k' =>
      cases ek
      obtain ⟨z, h1, h2⟩ := rps_at hr e
      rcases hq with hq | hq
      · exact ix_list value slice pins s σ H x y v u Q I rx ry ⟨a, vs, k, z, hx, rp_int py, hq, h1, q z h2⟩ hs
      · exact ix_tup value slice pins s σ H x y v u Q I rx ry ⟨a, vs, k, z, hx, rp_int py, hq, h1, q z h2⟩ hs
    | _ => cases ek
  have gen : (match listAt fr lv dx, dictAt fr lv dx with
    | some xs, _ => (intOf dy).bind fun k => Sv.atI xs k
    | none, some kvs => if D.key keyDepth dy then kvGet kvs dy else none
    | none, none => none) = some d → wpAny (model X.prog X.w) X.A (subscriptTail value slice v u) (EP X pins σ Q) X.xe s := fun e0 => by
    cases e1 : listAt fr lv dx with
    | some xs =>
      rw [e1] at e0
      obtain ⟨a, vs, rfl, h1, h2⟩ := listAt_of r px e1
      exact lists (.inl (.inl h1)) rfl h2 e0
    | none =>
      rw [e1] at e0
      cases e2 : dictAt fr lv dx with
      | none => rw [e2] at e0; cases e0
      | some kvs =>
        rw [e2] at e0
        simp only at e0
        split at e0
        · rename_i c
          obtain ⟨l, lk, rfl, hl⟩ := dictAt_of e2
          obtain ⟨_, rfl⟩ := rp_ref px
          obtain rfl : v = Value.ref (μ l) := rx
          obtain ⟨es, _, _, _, _, h5⟩ := dct_of r hl
          obtain ⟨ep, ho⟩ := Inv.dictO I h5
          exact subD (T := "dict") ⟨_, ho, rfl⟩ slot_dict_getitem.lookup (dd_get ft I r hl c py ry e0 fun w' s' I' ⟨z, h1, h2⟩ => ⟨z, H, I', h1, q z h2⟩) hs
        · cases e0
  cases dx with
  | tup xs =>
    obtain ⟨a, vs, hx, h1, h2⟩ := rp_tup px
    rw [← ft.K] at h1
    exact lists (.inr h1) hx h2 e
  | str z =>
    have e : (if z.length ≤ lineMax then (intOf dy).bind fun k => (Sv.atI z.cps.toList k).map fun c => D.str ⟨#[c]⟩ else none) = some d := e
    split at e
    · rename_i hz
      obtain ⟨k, ek, e⟩ := Option.bind_eq_some_iff.mp e
      cases dy with
      | int k' =>
        cases ek
        obtain ⟨c, h1, rfl⟩ := Option.map_eq_some_iff.mp e
        rw [atI_eq] at h1
        exact ix_str value slice pins s σ H x y v u Q I rx ry ⟨z, _, c, rp_str px, rp_int py, Nat.le_trans hz lineMax_le, h1, q _ (rp_sc.2.2.1 _)⟩ hs
      | _ => cases ek
    · cases e
  | ref l => exact gen e
  | _ => cases e

theorem pd_idx (ft : Fits X F) {a b : Expr} {ca cb : C} {pos : Pos} (hs : PlainIx b) (ha : PE X a (TEo F (evm G ca))) (hb : PE X b (TEo F (evm G cb))) : PE X (.Subscript a b pos) (TEo F (evm G (.idx ca cb))) :=
  (pe_ix (ix_all ft) ha hb hs).imp fun σ H Q ⟨μ, ρ, φ, η, fr, lv, hh, g⟩ => bin_of (X := X) (ma := evm G ca) (mb := evm G cb) (p := fun fr lv x y => .of (idxD fr lv x y) lv) ft ⟨μ, ρ, φ, η, fr, lv, hh, by simpa only [evm, ev, mBin] using g⟩
/-! ### slices -/
def TOo (F : Fm) (m : Mt (Option Int)) : TO := fun σ H Q => ∃ μ ρ φ η fr lv, Here F σ H μ ρ φ η fr lv ∧ Go F (fun _ _ _ a b => a = b) σ H μ fr lv (m ρ φ η fr lv) Q
abbrev evom (G : Orc) (c : Option C) : Mt (Option Int) := fun ρ φ η fr lv => evo G fr φ η c ρ lv
theorem _root_.L2.PO.imp {X : Cx} {e : Option Expr} {t t' : TO} (h : PO X e t) (i : ∀ σ H Q, t' σ H Q → t σ H Q) : PO X e t' := ⟨fun pins s σ H Q I q => h.run pins s σ H Q I (i _ _ _ q)⟩
theorem po_n : PO X none (TOo F (evom G none)) := po_none.imp fun σ H Q ⟨μ, ρ, φ, η, fr, lv, hh, g⟩ => by
  simp only [evom, evo] at g
  exact g.now hh.rel rfl
theorem po_s (ft : Fits X F) {e : Expr} {c : C} (h : PE X e (TEo F (evm G c))) : PO X (some e) (TOo F (evom G (some c))) := (po_some h).imp fun σ H Q ⟨μ, ρ, φ, η, fr, lv, hh, g⟩ => by
  simp only [evom, evo] at g
  obtain ⟨μ, ρ, φ, η, fr, lv, hh, g⟩ := te_seq (ma := evm G c) ft hh g
  refine ⟨μ, ρ, φ, η, fr, lv, hh, g.imp fun x H1 ⟨d, s1, μ1, h1, r1, k1⟩ => ?_⟩
  cases d with
  | int i => exact ⟨i, rp_int r1, k1.now h1.rel rfl⟩
  | _ => exact k1.elim
theorem sIx_eq (n : Nat) (o : Option Int) (d : Nat) : HT.sIx n d o = match o with
    | some j => clampI n j
    | none => d := by
  cases o with
  | none => rfl
  | some v => rfl
theorem cutL_eq {α : Type} (xs : List α) (lo hi : Option Int) : cutL xs lo hi = (xs.drop (HT.sIx xs.length 0 lo)).take (HT.sIx xs.length xs.length hi - HT.sIx xs.length 0 lo) := by
  unfold cutL
  rw [sIx_eq, sIx_eq, List.drop_take]
  all_goals (cases lo <;> cases hi <;> rfl)
theorem rps_cut {Z : Zx} {μ : Nat → Addr} {n : Nat} {H : Hp} {ds : List D} {vs : List V} (h : Rps Z μ n H ds vs) (lo hi : Option Int) : Rps Z μ n H (cutL ds lo hi) (cutV vs lo hi) := by
  rw [cutL_eq]
  unfold cutV
  rw [← h.length]
  exact (h.drop _).take _
theorem cut_whole {α : Type} (xs : List α) {lo hi : Option Int} (h : HT.sIx xs.length 0 lo = 0 ∧ HT.sIx xs.length xs.length hi = xs.length) : cutL xs lo hi = xs := by
  rw [cutL_eq, h.1, h.2]
  simp
theorem _root_.L2.SlR.imp {X : Cx} {r r' : V → Option Int → Option Int → Hp → VK → Prop} (h : SlR X r) (i : ∀ x lo hi H Q, r' x lo hi H Q → r x lo hi H Q) : SlR X r' := fun pins s σ H x v vl vu lo hi sl Q I rx hs pl pu q => h pins s σ H x v vl vu lo hi sl Q I rx hs pl pu (i _ _ _ _ _ q)
def rSlD (F : Fm) : V → Option Int → Option Int → Hp → VK → Prop := fun x lo hi H Q => ∃ σ μ fr lv d, Rel F.z μ H fr lv ∧ Rp F.z μ (fr.length + lv.length) H d x ∧ Go F (YV F) σ H μ fr lv (slcD fr lv d lo hi) Q
theorem sl_all (ft : Fits X F) : SlR X (rSlD F) := (SlR.or (SlR.or sl_tupA sl_str) sl_list).imp fun x lo hi H Q ⟨σ, μ, fr, lv, d, r, p, g⟩ => by
  unfold slcD at g
  split at g
  · have lists : ∀ {d}, Rp F.z μ (fr.length + lv.length) H d x → Go F (YV F) σ H μ fr lv (match listAt fr lv d with
        | some xs => new fr lv (.lst (cutL xs lo hi))
        | none => .bad) Q → rSlL X.K x lo hi H Q := fun {d} p g => by
      cases e : listAt fr lv d with
      | none => rw [e] at g; exact g.elim
      | some xs =>
        rw [e] at g
        obtain ⟨a, vs, rfl, h1, h2⟩ := listAt_of r p e
        exact ⟨a, vs, rfl, .inl h1, fun q hq => Go.lst g r (rps_cut h2 lo hi) hq⟩
    cases d with
    | tup xs =>
      obtain ⟨a, vs, rfl, h1, h2⟩ := rp_tup p
      refine .inl (.inl ⟨a, vs, rfl, by rw [ft.K]; exact h1, fun hw => ?_, fun hw q hq => Go.tup g r (rps_cut h2 lo hi) hq⟩)
      rw [← h2.length] at hw
      have g : Go F (YV F) σ H μ fr lv (.ok (.tup (cutL xs lo hi)) lv) Q := g
      rw [cut_whole xs hw] at g
      exact Go.now (F := F) (a := D.tup xs) g r p
    | str z =>
      have g : Go F (YV F) σ H μ fr lv (if z.length ≤ lineMax then .ok (.str ⟨(cutL z.cps.toList lo hi).toArray⟩) lv else .bad) Q := g
      split at g
      · rename_i hz
        refine .inl (.inr ⟨z, rp_str p, Nat.le_trans hz lineMax_le, ?_⟩)
        have e : cutS z lo hi = ⟨(cutL z.cps.toList lo hi).toArray⟩ := by
          unfold cutS
          rw [cutL_eq]
          rfl
        rw [e]
        exact Go.now (F := F) (a := D.str _) g r (rp_sc.2.2.1 _)
      · exact g.elim
    | _ => exact .inr (lists p g)
  · exact g.elim
theorem pd_slc (ft : Fits X F) {a : Expr} {lo hi : Option Expr} {ca : C} {cl ch : Option C} {p2 pos : Pos} (ha : PE X a (TEo F (evm G ca))) (hl : PO X lo (TOo F (evom G cl))) (hh : PO X hi (TOo F (evom G ch))) : PE X (.Subscript a (.Slice lo hi none p2) pos) (TEo F (evm G (.slc ca cl ch))) :=
  (pe_slice (sl_all ft) ha hl hh).imp fun σ H Q ⟨μ, ρ, φ, η, fr, lv, hh, g⟩ => by
    simp only [evm, ev] at g
    refine (te_seq (ma := evm G ca) ft hh g).mono fun x H1 ⟨d, s1, μ1, h1, r1, k1⟩ => ?_
    refine ⟨μ1, ρ, φ, η, fr, s1, h1, (Go.bind (Y := fun _ _ _ a b => a = b) k1).imp fun l H2 ⟨l', s2, μ2, e2, r2, g2, y2, k2⟩ => ?_⟩
    obtain rfl := y2
    have h2 := h1.grow ft.clo r2 g2
    refine ⟨μ2, ρ, φ, η, fr, s2, h2, (Go.bind (Y := fun _ _ _ a b => a = b) k2).imp fun u H3 ⟨u', s3, μ3, e3, r3, g3, y3, k3⟩ => ?_⟩
    obtain rfl := y3
    exact ⟨σ, μ3, fr, s3, d, r3, Rp.grow g3 _ _ (Rp.grow g2 _ _ r1), k3⟩
theorem pd_rev (ft : Fits X F) {a : Expr} {ca : C} {k : Nat} {p1 p2 p3 pos : Pos} (ha : PE X a (TEo F (evm G ca))) : PE X (.Subscript a (.Slice none none (some (.UnaryOp .USub (.Constant (.int 1) k p1) p2)) p3) pos) (TEo F (evm G (.rev ca))) :=
  (pe_revL ha).imp fun σ H Q ⟨μ, ρ, φ, η, fr, lv, hh, g⟩ => by
    simp only [evm, ev] at g
    refine (te_seq (ma := evm G ca) ft hh g).mono fun x H1 ⟨d, s1, μ1, h1, r1, k1⟩ => ?_
    cases e : listAt fr s1 d with
    | none => rw [e] at k1; exact k1.elim
    | some xs =>
      rw [e] at k1
      simp only [newL] at k1
      split at k1
      · obtain ⟨b, vs, rfl, h2, h3⟩ := listAt_of h1.rel r1 e
        exact ⟨b, vs, rfl, .inl h2, fun q hq => Go.lst k1 h1.rel h3.rev hq⟩
      · exact k1.elim
/-! ### attributes -/
/-- what is known of the classes -/
structure ClsF (K : PySem.W.Frag) (Z : Zx) : Prop where
  cls : ∀ c ∈ Z.cs, Cls K (Z.clA c)
  no : ∀ c ∈ Z.cs, ∀ f ∈ Z.ats, NoAttr K (Z.clA c) (Z.atN f)
  inj : ∀ f ∈ Z.ats, ∀ g ∈ Z.ats, Z.atN f = Z.atN g → f = g
theorem insAt_of {fr lv : Sto} {d : D} {l c : Nat} {fs : List (Nat × D)} (h : insAt fr lv d = some (l, c, fs)) : d = .ref l ∧ look fr lv l = some (.ins c fs) := by
  cases d with
  | ref k =>
    simp only [insAt] at h
    cases q : look fr lv k with
    | none => rw [q] at h; cases h
    | some o =>
      rw [q] at h
      cases o with
      | ins c' fs' => cases h; exact ⟨rfl, q⟩
      | _ => cases h
  | _ => cases h
theorem lookupF {Z : Zx} {K : PySem.W.Frag} (cf : ClsF K Z) {μ : Nat → Addr} {n : Nat} {H : Hp} {fs : List (Nat × D)} {vs : List (Str × V)} (h : Paired (fun p q => (p.1 ∈ Z.ats ∧ q.1 = Z.atN p.1) ∧ Rp Z μ n H p.2 q.2) fs vs) {f : Nat} (hf : f ∈ Z.ats) :
    (∀ d, fs.lookup f = some d → ∃ v, vs.lookup (Z.atN f) = some v ∧ Rp Z μ n H d v) := by
  induction h with
  | nil => intro d e; cases e
  | @cons p q fs vs r _ ih =>
    intro d e
    obtain ⟨⟨r0, r1⟩, r2⟩ := r
    obtain ⟨g, dv⟩ := p
    obtain ⟨y, v⟩ := q
    simp only at r0 r1 r2
    subst r1
    rw [List.lookup_cons] at e ⊢
    by_cases c : f = g
    · subst c
      rw [beq_self_eq_true] at e ⊢
      cases e
      exact ⟨v, rfl, r2⟩
    · have c2 : (f == g) = false := beq_eq_false_iff_ne.mpr c
      have c3 : (Z.atN f == Z.atN g) = false := beq_eq_false_iff_ne.mpr fun z => c (cf.inj _ hf _ r0 z)
      rw [c2] at e
      rw [c3]
      exact ih d e
theorem pd_att (ft : Fits X F) (cf : ClsF X.K F.z) {a : Expr} {ca : C} {f : Nat} {y : Str} {pos : Pos} (hf : f ∈ F.z.ats) (hy : F.z.atN f = y) (hb : attributeBase a y X.env (eval a X.env) = eval a X.env) (ha : PE X a (TEo F (evm G ca))) : PE X (.Attribute a y pos) (TEo F (evm G (.att ca f))) :=
  (pe_fld ha hb).imp fun σ H Q ⟨μ, ρ, φ, η, fr, lv, hh, g⟩ => by
    simp only [evm, ev] at g
    refine (te_seq (ma := evm G ca) ft hh g).mono fun x H1 ⟨d, s1, μ1, h1, r1, k1⟩ => ?_
    obtain ⟨dv, e, q⟩ := Sv.go_of k1 h1.rel
    simp only [attD] at e
    cases e1 : insAt fr s1 d with
    | none => rw [e1] at e; cases e
    | some p =>
      obtain ⟨l, c, fs⟩ := p
      rw [e1] at e
      obtain ⟨rfl, hl⟩ := insAt_of e1
      obtain ⟨_, rfl⟩ := rp_ref r1
      obtain ⟨dx, vs, h2, hcs, h3⟩ := h1.rel.obj l _ hl
      obtain ⟨v, h4, h5⟩ := lookupF cf h3 hf dv e
      subst hy
      exact ⟨μ1 l, F.z.clA c, dx, vs, v, rfl, h2, cf.cls c hcs, cf.no c hcs f hf, h4, q v h5⟩
end
end Sv
end -- Sem8
section -- Sem9
set_option Elab.async false
set_option linter.all false
set_option maxRecDepth 100000
set_option maxHeartbeats 2000000
/-! # Calls -/
namespace Sv
open PySem PySem.Spec PyProof.Rows L2

/-- what a call's answer leaves to be shown -/
def GoC (Z : Zx) (H : Hp) (μ : Nat → Addr) (fr lv : Sto) (x : R D) (Q : VK) (E : XK) : Prop := match x with
  | .ok d lv' => ∀ v H' μ', Rel Z μ' H' fr lv' → Grow fr.length μ (fr.length + lv.length) H μ' (fr.length + lv'.length) H' → Rp Z μ' (fr.length + lv'.length) H' d v → Q v H'
  | .ex c v lv' => ∀ d H' μ', Rel Z μ' H' fr lv' → Grow fr.length μ (fr.length + lv.length) H μ' (fr.length + lv'.length) H' → ErrR Z c μ' (fr.length + lv'.length) H' v d → E (.ref (Z.exA c)) (some d) H'
  | .bad => False
/-- defs handed on, in a row -/
abbrev Clo := Nat → Addr → List V → Prop
def FnTs (clo : Clo) (Z : Zx) (μ : Nat → Addr) (n : Nat) (H : Hp) : List FV → List V → Prop := Paired (FnT clo Z μ n H)
/-- the promise of a def: the data, then the defs -/
def spI (Z : Zx) (call : List D → List FV → Sto → Sto → R D) (clo : Clo) : Sp := fun vs H Q E =>
  ∃ μ ds φ ws fs fr lv, vs = ws ++ fs ∧ Rel Z μ H fr lv ∧ Rps Z μ (fr.length + lv.length) H ds ws ∧ FnTs clo Z μ (fr.length + lv.length) H φ fs ∧ GoC Z H μ fr lv (call ds φ fr lv) Q E
/-- a def that keeps its promise; what it is handed is told of the very state -/
structure FnS (P : Program) (w : World) (K : PySem.W.Frag) (mg : Str → Option Value) (base : Heap) (Z : Zx) (k : Nat) (f : Addr) (fd : FuncData) (ps : List Str) (sp : List D → List FV → Sto → Sto → R D) : Prop where
  len : ∀ clo vs H Q E, spI Z sp clo vs H Q E → vs.length = ps.length
  run : ∀ (A : Around) (outer : List PySem.Env) (s : Shared) (H : Hp) (args : Args) (us : List Value) (vs : List V) (Q : VK) (E : XK), Room k A → A.guards = some [] → Env0 P w K mg base A outer s H → BindsTo s fd args (ps.zip us) → Vals vs us → spI Z sp (Z.cloS s H outer) vs H Q E →
    codeAny (model P w) A (.call (.ref f) args) (CR (CX P w) outer P w H s Q E) s
theorem FnS.mono {P : Program} {w : World} {K : PySem.W.Frag} {mg : Str → Option Value} {base : Heap} {Z : Zx} {j k : Nat} {f : Addr} {fd : FuncData} {ps : List Str} {sp : List D → List FV → Sto → Sto → R D} (x : FnS P w K mg base Z j f fd ps sp) (h : j ≤ k) : FnS P w K mg base Z k f fd ps sp :=
  ⟨x.len, fun A outer s H args us vs Q E hr hg => x.run A outer s H args us vs Q E (hr.mono h) hg⟩
theorem spI_mono {Z : Zx} {call : List D → List FV → Sto → Sto → R D} {clo clo' : Clo} (h : ∀ id a vs, clo id a vs → clo' id a vs) {vs : List V} {H : Hp} {Q : VK} {E : XK} (q : spI Z call clo vs H Q E) : spI Z call clo' vs H Q E := by
  obtain ⟨μ, ds, φ, ws, fs, fr, lv, e, r, rs, ts, g⟩ := q
  exact ⟨μ, ds, φ, ws, fs, fr, lv, e, r, rs, L2.Paired.mapP ts fun _ _ t => t.elim .inl fun ⟨a, vs, e1, e2, e3⟩ => .inr ⟨a, vs, e1, h _ _ _ e2, e3⟩, g⟩
section
variable {X : Cx} {F : Fm} {G : Orc} {k : Nat} {f C : Addr} {fd : FuncData} {ps : List Str} {sp : List D → List FV → Sto → Sto → R D} {ds : List Value} {dvs : List V} {x m : Str} {p pos apos : Pos} {e o : Expr} {es : List Expr} {ta : TE} {t : TA}
/-- the callee runs; its exceptions are taken where it is called -/
theorem run_here {pins : List (Addr × Obj)} {σ : L2.St} {H : Hp} {s : Shared} {Q : VK} {E : XK} {us : List Value} {vs : List V} (ft : Fits X F) (Fk : FnS X.prog X.w X.K X.mg X.base F.z k f fd ps sp) (hr : Room k X.A) (hb : Binds X.K fd ps ds) (hd : Vals dvs ds)
    (I : Inv X pins σ H s) (r : Vals vs us) (h : spI F.z sp F.clo (vs ++ dvs) H Q E) (hW : ∀ cls d H', E cls d H' → F.W cls d σ H') : wpAny (model X.prog X.w) X.A (call (.ref f) us) (EP X pins σ Q) X.xe s := by
  have r2 : Vals (vs ++ dvs) (us ++ ds) := r.append hd
  have hl : (us ++ ds).length = ps.length := by rw [← r2.length]; exact Fk.len _ _ _ _ _ h
  refine wpAny_call (codeAny_mono (Fk.run X.A X.stack s H ⟨us, []⟩ (us ++ ds) (vs ++ dvs) Q E hr ft.gd I.env0 (hb s us I.kIn hl) r2 (spI_mono (fun id a vs => ft.cl H s id a vs I.base) h)) fun r s' hq => ?_)
  cases r with
  | error e => exact ft.tk e s' (XE.of_call I hW hq)
  | ok fl =>
    cases fl with
    | ret u => exact I.after hq
    | next => exact False.elim hq
    | brk => exact False.elim hq
    | cont => exact False.elim hq
def tCallW (F : Fm) (sp : List D → List FV → Sto → Sto → R D) (dvs : List V) (t : TA) : TE := fun σ H Q => t σ H fun vs H1 => spI F.z sp F.clo (vs ++ dvs) H1 Q fun cls d H' => F.W cls d σ H'
theorem pe_callW (ft : Fits X F) (Fk : FnS X.prog X.w X.K X.mg X.base F.z k f fd ps sp) (hr : Room k X.A) (hg : Gl X x) (hm : X.mg x = some (.ref f)) (hk : PySem.W.keepIn X.K (.ref f) = true) (hb : Binds X.K fd ps ds) (hd : Vals dvs ds)
    (ha : PA X (e :: es) t) (hdb : (x == ("__debug__" : Str)) = false) (he : starEach (e :: es) X.env = (false, eval e X.env) :: starEach es X.env) (hpl : (backTo pos (starEach es X.env)).any (·.1) = false) :
    PE X (.Call (.Name x p) (e :: es) [] pos) (tCallW F sp dvs t) := by
  refine ⟨fun pins s σ H Q I h => ?_⟩
  refine wpAny_Call_Name_kw (ld_glob I hg hm ?_ hdb)
  refine PySem.W.callWith_K (h₀ := X.base) I.ok.mod.kin hk (thn (ha.run pos pins s σ H _ I h) fun us s1 ⟨vs, H1, I1, r, q⟩ => ⟨I1.kIn, ?_⟩) he hpl
  exact run_here ft Fk hr hb hd I1 r q fun _ _ _ z => z
theorem pe_callW0 (ft : Fits X F) (Fk : FnS X.prog X.w X.K X.mg X.base F.z k f fd ps sp) (hr : Room k X.A) (hg : Gl X x) (hm : X.mg x = some (.ref f)) (hk : PySem.W.keepIn X.K (.ref f) = true) (hb : Binds X.K fd ps ds) (hd : Vals dvs ds)
    (hdb : (x == ("__debug__" : Str)) = false) : PE X (.Call (.Name x p) [] [] pos) (tCallW F sp dvs tNil) := by
  refine ⟨fun pins s σ H Q I h => ?_⟩
  refine wpAny_Call_Name_kw (ld_glob I hg hm ?_ hdb)
  exact PySem.W.callWith_K0 I.kIn hk (run_here (us := []) ft Fk hr hb hd I .nil h fun _ _ _ z => z)
end
section
variable {X : Cx} {F : Fm} {G : Orc} {k : Nat} {x m : Str} {p pos apos : Pos} {o : Expr} {es : List Expr} {gl : List (Str × GV)} {ms : List (Str × Nat × List (List Str))}
theorem te_seqG (ft : Fits X F) {ma : Mt D} {α β : Type} {Y : (Nat → Addr) → Nat → Hp → α → β → Prop} {σ : L2.St} {H : Hp} {Q : β → Hp → Prop} {μ : Nat → Addr} {ρ : Env} {φ : List FV} {η : Option (Nat × List D)} {fr lv : Sto} {f : D → Sto → R α}
    (hh : Here F σ H μ ρ φ η fr lv) (g : Go F Y σ H μ fr lv ((ma ρ φ η fr lv).bind f) Q) :
    TEo F ma σ H fun x H1 => ∃ d s μ1, Here F σ H1 μ1 ρ φ η fr s ∧ Grow fr.length μ (fr.length + lv.length) H μ1 (fr.length + s.length) H1 ∧ Rp F.z μ1 (fr.length + s.length) H1 d x ∧ Go F Y σ H1 μ1 fr s (f d s) Q :=
  ⟨μ, ρ, φ, η, fr, lv, hh, (Go.bind (Y := YV F) g).imp fun x H1 ⟨d, s, μ1, e, r1, g1, y1, k1⟩ => ⟨d, s, μ1, hh.grow ft.clo r1 g1, g1, y1, k1⟩⟩
theorem ta_seqG (ft : Fits X F) {ma : Mt (List D)} {α β : Type} {Y : (Nat → Addr) → Nat → Hp → α → β → Prop} {σ : L2.St} {H : Hp} {Q : β → Hp → Prop} {μ : Nat → Addr} {ρ : Env} {φ : List FV} {η : Option (Nat × List D)} {fr lv : Sto} {f : List D → Sto → R α}
    (hh : Here F σ H μ ρ φ η fr lv) (g : Go F Y σ H μ fr lv ((ma ρ φ η fr lv).bind f) Q) :
    TAo F ma σ H fun x H1 => ∃ d s μ1, Here F σ H1 μ1 ρ φ η fr s ∧ Grow fr.length μ (fr.length + lv.length) H μ1 (fr.length + s.length) H1 ∧ Rps F.z μ1 (fr.length + s.length) H1 d x ∧ Go F Y σ H1 μ1 fr s (f d s) Q :=
  ⟨μ, ρ, φ, η, fr, lv, hh, (Go.bind (Y := YL F) g).imp fun x H1 ⟨d, s, μ1, e, r1, g1, y1, k1⟩ => ⟨d, s, μ1, hh.grow ft.clo r1 g1, g1, y1, k1⟩⟩
/-! ### what is known of the module -/
/-- a def of the text -/
def FnF (X : Cx) (Z : Zx) (G : Orc) (k : Nat) (id : Nat) (ps : List Str) : Prop :=
  ∃ fd, FnS X.prog X.w X.K X.mg X.base Z k (Z.fnA id) fd ps (G.call id) ∧ Binds X.K fd ps [] ∧ PySem.W.keepIn X.K (.ref (Z.fnA id)) = true
/-- what the names of the module stand for -/
structure Kn (X : Cx) (Z : Zx) (G : Orc) (k : Nat) (gl : List (Str × GV)) (ms : List (Str × Nat × List (List Str))) : Prop where
  fn : ∀ x id ps b, gl.lookup x = some (.fn id ps b) → X.mg x = some (.ref (Z.fnA id)) ∧ FnF X Z G k id ps
  cls : ∀ x c ps, gl.lookup x = some (.cls c ps) → X.mg x = some (.ref (Z.clA c)) ∧ c ∈ Z.cs ∧ Mk X.K (Z.clA c) (Z.fnA (mid c mInit)) ∧ ∃ qs, FnF X Z G k (mid c mInit) qs
  mth : ∀ y m pss, ms.lookup y = some (m, pss) → ∀ c, G.has (mid c m) = true → Meth X.K (Z.clA c) y (Z.fnA (mid c m)) ∧ (∃ ps, FnF X Z G k (mid c m) ps) ∧ ∀ f ∈ Z.ats, Z.atN f ≠ y
  cf : ClsF X.K Z
  rm : Room (k + 1) X.A
theorem goC_of {σ : L2.St} {H : Hp} {μ : Nat → Addr} {fr lv : Sto} {x : R D} {Q : VK} (g : Go F (YV F) σ H μ fr lv x Q) : GoC F.z H μ fr lv x Q fun cls d H' => F.W cls d σ H' := by
  cases x with
  | ok a s => exact g
  | ex c v s => exact g
  | bad => exact g
theorem tCall_of (ft : Fits X F) {id : Nat} {cs : List C} {σ : L2.St} {H : Hp} {Q : VK} (h : TEo F (evm G (.call id cs)) σ H Q) : tCallW F (G.call id) [] (TAo F (evsm G cs)) σ H Q := by
  obtain ⟨μ, ρ, φ, η, fr, lv, hh, g⟩ := h
  simp only [evm, ev] at g
  refine (ta_seq (ma := evsm G cs) ft hh g).mono fun xs H1 ⟨ds, s1, μ1, h1, r1, k1⟩ => ?_
  exact ⟨μ1, ds, [], xs, [], fr, s1, rfl, h1.rel, r1, .nil, goC_of k1⟩
/-- how argument lists are walked -/
structure ArgsOk (X : Cx) (pos : Pos) (es : List Expr) (cs : List C) : Prop where
  nil : es = [] → cs = []
  st : ∀ e r, es = e :: r → starEach (e :: r) X.env = (false, eval e X.env) :: starEach r X.env ∧ (backTo pos (starEach r X.env)).any (·.1) = false
theorem ta_nil {σ : L2.St} {H : Hp} {Q : List V → Hp → Prop} (h : TAo F (evsm G []) σ H Q) : tNil σ H Q := by
  obtain ⟨μ, ρ, φ, η, fr, lv, hh, g⟩ := h
  simp only [evsm, evs] at g
  exact g.now hh.rel (by simp only [YL, Rps])
/-- f(..) -/
theorem pd_call (ft : Fits X F) (kn : Kn X F.z G k gl ms) {id : Nat} {ps : List Str} {b : Bool} {cs : List C} (hx : gl.lookup x = some (.fn id ps b)) (hg : Gl X x) (hdb : (x == ("__debug__" : Str)) = false)
    (ha : PA X es (TAo F (evsm G cs))) (ao : ArgsOk X pos es cs) : PE X (.Call (.Name x p) es [] pos) (TEo F (evm G (.call id cs))) := by
  obtain ⟨hm, fd, hf, hb, hk⟩ := kn.fn x id ps b hx
  cases es with
  | nil =>
    obtain rfl := ao.nil rfl
    exact (pe_callW0 ft hf (kn.rm.mono (Nat.le_succ _)) hg hm hk hb .nil hdb).imp fun σ H Q h => ta_nil (tCall_of ft h)
  | cons e r =>
    obtain ⟨s1, s2⟩ := ao.st e r rfl
    exact (pe_callW ft hf (kn.rm.mono (Nat.le_succ _)) hg hm hk hb .nil ha hdb s1 s2).imp fun σ H Q h => tCall_of ft h
/-! ### o.m(..) -/
/-- whatever the instance's class -/
def tMethD (F : Fm) (G : Orc) (m : Nat) (ta : TE) (t : TA) : TE := fun σ H Q => ta σ H fun x H1 => ∃ a dx fs c, x = .ref a ∧ H1 a = some (.ins (F.z.clA c) dx fs) ∧ (∀ p ∈ fs, ∃ f ∈ F.z.ats, p.1 = F.z.atN f) ∧ c ∈ F.z.cs ∧ G.has (mid c m) = true ∧
  t σ H1 fun vs H2 => spI F.z (G.call (mid c m)) F.clo (x :: vs) H2 Q fun cls d H' => F.W cls d σ H'
theorem no_lookup {vs : List (Str × V)} {m : Str} (h : ∀ p ∈ vs, p.1 ≠ m) : vs.lookup m = none := by
  induction vs with
  | nil => rfl
  | cons p vs ih =>
    rw [List.lookup_cons]
    have : (m == p.1) = false := beq_eq_false_iff_ne.mpr fun z => h p List.mem_cons_self z.symm
    rw [this]
    exact ih fun q hq => h q (List.mem_cons_of_mem _ hq)
theorem pe_methD {ta : TE} {t : TA} {i : Nat} {pss : List (List Str)} {pl : Sem Bool} (ft : Fits X F) (kn : Kn X F.z G k gl ms) (hm : ms.lookup m = some (i, pss)) (he : PE X o ta) (ha : es ≠ [] → PA X es t) (h0 : es = [] → ∀ σ H Q, t σ H Q → Q [] H)
    (hst : ∀ e r, es = e :: r → starEach (e :: r) X.env = (false, eval e X.env) :: starEach r X.env ∧ (backTo pos (starEach r X.env)).any (·.1) = false)
    (ht : eval (.Call (.Attribute o m apos) es [] pos) X.env = (do
      let ov ← eval o X.env
      standAt apos.atName
      let (f, first) ← holding [ov] (getMethod ov m pl)
      callWith pos f first (backTo pos (starEach es X.env)) (backToKw pos (keywordEach [] X.env)))) :
    PE X (.Call (.Attribute o m apos) es [] pos) (tMethD F G i ta t) := by
  refine ⟨fun pins s σ H Q I h => ?_⟩
  refine PySem.W.methodCall_KW (pl := pl) (thn (he.run pins s σ H _ I h) fun u s1 ⟨x, H1, I1, rx, a, dx, fs, c, ex, ea, hfs, hcs, hc, q⟩ => ?_) ht
  subst ex
  obtain rfl : u = Value.ref a := rx
  obtain ⟨mt, ⟨ps, fd, hf, hb, hk⟩, hno⟩ := kn.mth m i pss hm c hc
  have l : fs.lookup m = none := no_lookup fun p hp => by
    obtain ⟨f, hf, e⟩ := hfs p hp
    rw [e]
    exact hno f hf
  refine getmeth_ok I1 ea (kn.cf.cls c hcs) mt l ?_
  have hrm := kn.rm.mono (Nat.le_succ k)
  cases es with
  | nil => exact PySem.W.callWith_K0 (first := [.ref a]) I1.kIn mt.kp (run_here (us := [.ref a]) (vs := [.ref a]) (dvs := []) ft hf hrm hb .nil I1 (.cons rfl .nil) (h0 rfl _ _ _ q) fun _ _ _ z => z)
  | cons e r =>
    obtain ⟨s1', s2'⟩ := hst e r rfl
    refine PySem.W.callWith_K (h₀ := X.base) (first := [.ref a]) I1.ok.mod.kin mt.kp (thn ((ha (by simp)).run pos pins s1 σ H1 _ I1 q) fun us s2 ⟨vs, H2, I2, r2, q2⟩ => ⟨I2.kIn, ?_⟩) s1' s2'
    exact run_here (us := .ref a :: us) (vs := .ref a :: vs) (dvs := []) ft hf hrm hb .nil I2 (.cons rfl r2) (by simpa using q2) fun _ _ _ z => z
theorem clsAt_of {fr lv : Sto} {d : D} {m c : Nat} (h : clsAt G fr lv d m = some c) : ∃ l fs, d = .ref l ∧ look fr lv l = some (.ins c fs) ∧ G.has (mid c m) = true := by
  unfold clsAt at h
  cases e : insAt fr lv d with
  | none => rw [e] at h; cases h
  | some p =>
    obtain ⟨l, c', fs⟩ := p
    rw [e] at h
    simp only at h
    split at h
    · rename_i hc
      cases h
      obtain ⟨rfl, hl⟩ := insAt_of e
      exact ⟨l, fs, rfl, hl, hc⟩
    · cases h
theorem ins_names {Z : Zx} {μ : Nat → Addr} {n : Nat} {H : Hp} {fs : List (Nat × D)} {vs : List (Str × V)} (h : Paired (fun p q => (p.1 ∈ Z.ats ∧ q.1 = Z.atN p.1) ∧ Rp Z μ n H p.2 q.2) fs vs) : ∀ p ∈ vs, ∃ f ∈ Z.ats, p.1 = Z.atN f := by
  induction h with
  | nil => intro p hp; cases hp
  | @cons a b _ _ r _ ih =>
    intro p hp
    rcases List.mem_cons.mp hp with z | hp
    · subst z; exact ⟨a.1, r.1.1, r.1.2⟩
    · exact ih p hp
theorem tMeth_of (ft : Fits X F) {i : Nat} {co : C} {cs : List C} {σ : L2.St} {H : Hp} {Q : VK} (h : TEo F (evm G (.mth i co cs)) σ H Q) : tMethD F G i (TEo F (evm G co)) (TAo F (evsm G cs)) σ H Q := by
  obtain ⟨μ, ρ, φ, η, fr, lv, hh, g⟩ := h
  simp only [evm, ev] at g
  refine (te_seq (ma := evm G co) ft hh g).mono fun x H1 ⟨d, s1, μ1, h1, r1, k1⟩ => ?_
  cases e : clsAt G fr s1 d i with
  | none => rw [e] at k1; exact k1.elim
  | some c =>
    rw [e] at k1
    obtain ⟨l, fs, rfl, hl, hc⟩ := clsAt_of e
    obtain ⟨_, rfl⟩ := rp_ref r1
    obtain ⟨dx, vs, h2, hcs, h3⟩ := h1.rel.obj l _ hl
    refine ⟨μ1 l, dx, vs, c, rfl, h2, ins_names h3, hcs, hc, (ta_seqG (ma := evsm G cs) ft h1 k1).mono fun xs H2 ⟨ds, s2, μ2, h4, g4, r4, k4⟩ => ?_⟩
    refine ⟨μ2, .ref l :: ds, [], .ref (μ1 l) :: xs, [], fr, s2, by simp, h4.rel, ?_, .nil, goC_of k4⟩
    simp only [Rps]
    exact ⟨_, _, rfl, Rp.grow g4 _ _ r1, r4⟩
/-- how a method's call is walked -/
def MethEv (X : Cx) (o : Expr) (m : Str) (es : List Expr) (kws : List Keyword) (apos pos : Pos) : Prop :=
  ∃ pl : Sem Bool, eval (.Call (.Attribute o m apos) es kws pos) X.env = (do
      let ov ← eval o X.env
      standAt apos.atName
      let (f, first) ← holding [ov] (getMethod ov m pl)
      callWith pos f first (backTo pos (starEach es X.env)) (backToKw pos (keywordEach kws X.env)))
theorem pd_meth (ft : Fits X F) (kn : Kn X F.z G k gl ms) {i : Nat} {pss : List (List Str)} {co : C} {cs : List C} (hm : ms.lookup m = some (i, pss)) (he : PE X o (TEo F (evm G co))) (ha : PA X es (TAo F (evsm G cs))) (ao : ArgsOk X pos es cs) (ht : MethEv X o m es [] apos pos) :
    PE X (.Call (.Attribute o m apos) es [] pos) (TEo F (evm G (.mth i co cs))) := by
  obtain ⟨pl, ht⟩ := ht
  exact (pe_methD ft kn hm he (fun _ => ha) (fun e σ H Q h => by
    obtain rfl := ao.nil e
    exact ta_nil h) ao.st ht).imp fun σ H Q h => tMeth_of ft h
/-! ### C(..) -/
theorem ins_new {Z : Zx} {H : Hp} {μ : Nat → Addr} {fr lv : Sto} (r : Rel Z μ H fr lv) {c : Nat} {x dx : Addr} (hcs : c ∈ Z.cs) (hx : H x = none) (hd : H dx = none) (ne : dx ≠ x) :
    Rel Z (bump μ (fr.length + lv.length) x) (upd (upd H dx (.own x)) x (.ins (Z.clA c) dx [])) fr (lv ++ [.ins c []]) ∧
      Grow fr.length μ (fr.length + lv.length) H (bump μ (fr.length + lv.length) x) (fr.length + (lv ++ [O.ins c []]).length) (upd (upd H dx (.own x)) x (.ins (Z.clA c) dx [])) := by
  have e := upd_new (o := .own x) hd
  have hx' : upd H dx (.own x) x = none := by rw [upd_ne (Ne.symm ne)]; exact hx
  have r1 := r.same e
  have hlen : fr.length + (lv ++ [O.ins c []]).length = fr.length + lv.length + 1 := by simp; omega
  refine ⟨r1.new hx' ⟨dx, [], upd_same, hcs, .nil⟩, ?_⟩
  rw [hlen]
  exact Grow.trans (Nat.le_add_right _ _) (Grow.same e) (Grow.bump hx')
theorem make_guards {A : Around} {C : Addr} {us : List Value} {kw : List (Str × Value)} : (A.under (.builtin "type.__call__" ⟨.ref C :: us, kw⟩)).guards = A.guards := by
  first | rfl | simp [Around.under, Code.isGuard, guardIds]
def tMakeW (F : Fm) (C : Addr) (sp : List D → List FV → Sto → Sto → R D) (t : TA) : TE := fun σ H Q => t σ H fun vs H1 => ∀ x dx, H1 x = none → H1 dx = none → dx ≠ x →
  spI F.z sp F.clo (.ref x :: vs) (upd (upd H1 dx (.own x)) x (.ins C dx [])) (fun v H2 => v = .non ∧ Q (.ref x) H2) fun cls d H' => F.W cls d σ H'
theorem run_makeW {pins : List (Addr × Obj)} {σ : L2.St} {H : Hp} {s : Shared} {Q : VK} {C0 f : Addr} {fd : FuncData} {ps : List Str} {sp : List D → List FV → Sto → Sto → R D} {us : List Value} {vs : List V} (ft : Fits X F) (M : Mk X.K C0 f) (Fk : FnS X.prog X.w X.K X.mg X.base F.z k f fd ps sp) (hr : Room (k + 1) X.A) (hb : Binds X.K fd ps [])
    (I : Inv X pins σ H s) (r : Vals vs us)
    (h : ∀ x dx, H x = none → H dx = none → dx ≠ x → spI F.z sp F.clo (.ref x :: vs) (upd (upd H dx (.own x)) x (.ins C0 dx [])) (fun v H2 => v = .non ∧ Q (.ref x) H2) fun cls d H' => F.W cls d σ H') :
    wpAny (model X.prog X.w) X.A (call (.ref C0) us) (EP X pins σ Q) X.xe s := by
  have hq := h (s.heap.objs.size + 1) s.heap.objs.size (I.hok.fresh (Nat.le_succ _)) (I.hok.fresh (Nat.le_refl _)) (Nat.ne_of_lt (Nat.lt_succ_self _))
  have I2 := Inv.made (C := C0) I
  have r2 : Vals (V.ref (s.heap.objs.size + 1) :: vs) (Value.ref (s.heap.objs.size + 1) :: us) := .cons rfl r
  have hl : ((Value.ref (s.heap.objs.size + 1) :: us) ++ []).length = ps.length := by
    rw [List.append_nil, ← r2.length]
    exact Fk.len _ _ _ _ _ hq
  have hbb := hb _ (Value.ref (s.heap.objs.size + 1) :: us) I2.kIn hl
  rw [List.append_nil] at hbb
  refine wpAny_call (make_map (f := f) I.kIn M.makes M.init (beq_iff_eq.mp M.fn) (codeAny_mono (Fk.run _ X.stack _ _ ⟨Value.ref (s.heap.objs.size + 1) :: us, []⟩ (Value.ref (s.heap.objs.size + 1) :: us) _ _ _ (hr.make C0 us []) (make_guards.trans ft.gd)
    (I2.env0.make C0 us []) hbb r2 (spI_mono (fun id a vs => ft.cl _ _ id a vs I2.base) hq)) fun r s' hq' => ?_))
  cases r with
  | error e => exact ft.tk e s' (XE.of_call I2 (fun _ _ _ z => z) hq')
  | ok fl =>
    cases fl with
    | ret u =>
      obtain ⟨v, H', I3, rv, ev, q3⟩ := I2.after hq'
      subst ev
      exact ⟨rv, ⟨V.ref (s.heap.objs.size + 1), H', I3, rfl, q3⟩⟩
    | next => exact False.elim hq'
    | brk => exact False.elim hq'
    | cont => exact False.elim hq'
theorem tMake_of (ft : Fits X F) {c : Nat} (hcs : c ∈ F.z.cs) {cs : List C} {σ : L2.St} {H : Hp} {Q : VK} (h : TEo F (evm G (.mk c cs)) σ H Q) : tMakeW F (F.z.clA c) (G.call (mid c mInit)) (TAo F (evsm G cs)) σ H Q := by
  obtain ⟨μ, ρ, φ, η, fr, lv, hh, g⟩ := h
  simp only [evm, ev] at g
  refine (ta_seqG (ma := evsm G cs) ft hh g).mono fun xs H1 ⟨ds, s1, μ1, h1, g1, r1, k1⟩ x dx hx hd ne => ?_
  obtain ⟨r2, g2⟩ := ins_new (c := c) h1.rel hcs hx hd ne
  refine ⟨_, .ref (fr.length + s1.length) :: ds, [], .ref x :: xs, [], fr, s1 ++ [.ins c []], by simp, r2, ?_, .nil, ?_⟩
  · simp only [Rps]
    refine ⟨_, _, rfl, ?_, Rps.grow g2 _ _ r1⟩
    simp only [Rp]
    exact ⟨by simp, by rw [bump_self]⟩
  · unfold mkC at k1
    have k2 := Go.back g2 k1
    revert k2
    cases G.call (mid c mInit) (.ref (fr.length + s1.length) :: ds) [] fr (s1 ++ [.ins c []]) with
    | bad => intro k2; exact k2
    | ex c' v s2 => intro k2; exact k2
    | ok d s2 =>
      intro k2 v H3 μ3 r3 g3 y3
      cases d with
      | non =>
        refine ⟨by simpa only [Rp] using y3, k2 _ _ μ3 r3 g3 ?_⟩
        have e0 : Rp F.z (bump μ1 (fr.length + s1.length) x) (fr.length + (s1 ++ [O.ins c []]).length) (upd (upd H1 dx (.own x)) x (.ins (F.z.clA c) dx [])) (.ref (fr.length + s1.length)) (.ref x) := by
          simp only [Rp]
          exact ⟨by simp, by rw [bump_self]⟩
        exact Rp.grow g3 _ _ e0
      | _ => exact k2.elim
theorem pd_make (ft : Fits X F) (kn : Kn X F.z G k gl ms) {c : Nat} {ps : List Str} {cs : List C} (hx : gl.lookup x = some (.cls c ps)) (hg : Gl X x) (hdb : (x == ("__debug__" : Str)) = false)
    (ha : PA X es (TAo F (evsm G cs))) (ao : ArgsOk X pos es cs) : PE X (.Call (.Name x p) es [] pos) (TEo F (evm G (.mk c cs))) := by
  obtain ⟨hm, hcs, M, qs, fd, hf, hb, hk⟩ := kn.cls x c ps hx
  cases es with
  | nil =>
    obtain rfl := ao.nil rfl
    refine ⟨fun pins s σ H Q I h => ?_⟩
    refine wpAny_Call_Name_kw (ld_glob I hg hm ?_ hdb)
    have h := ta_nil (tMake_of ft hcs h)
    exact PySem.W.callWith_K0 I.kIn M.kp (run_makeW (us := []) (vs := []) ft M hf kn.rm hb I .nil h)
  | cons e r =>
    obtain ⟨s1, s2⟩ := ao.st e r rfl
    refine ⟨fun pins s σ H Q I h => ?_⟩
    refine wpAny_Call_Name_kw (ld_glob I hg hm ?_ hdb)
    refine PySem.W.callWith_K (h₀ := X.base) I.ok.mod.kin M.kp (thn (ha.run pos pins s σ H _ I (tMake_of ft hcs h)) fun us s1 ⟨vs, H1, I1, r, q⟩ => ⟨I1.kIn, ?_⟩) s1 s2
    exact run_makeW ft M hf kn.rm hb I1 r q
end
end Sv
end -- Sem9
section -- Sem10
set_option Elab.async false
set_option linter.all false
set_option maxRecDepth 100000
set_option maxHeartbeats 2000000
/-! # Statements -/
namespace Sv
open PySem PySem.Spec PyProof.Rows L2

abbrev MtS := Env → List FV → Option (Nat × List D) → Sto → Sto → RS
/-- what a statement's answer leaves to be shown -/
def GoS (F : Fm) (D : Ends) (H : Hp) (μ : Nat → Addr) (φ : List FV) (η : Option (Nat × List Sv.D)) (fr lv : Sto) (x : RS) : Prop := match x with
  | .ok ρ' f lv' => ∀ σ' H' μ', Here F σ' H' μ' ρ' φ η fr lv' → Grow fr.length μ (fr.length + lv.length) H μ' (fr.length + lv'.length) H' → match f with
    | .nx => D.nx σ' H'
    | .rt d => ∀ v, Rp F.z μ' (fr.length + lv'.length) H' d v → D.rt v H'
    | .bk => D.bk σ' H'
    | .ct => D.ct σ' H'
  | .ex c v ρ' lv' => ∀ d σ' H' μ', Here F σ' H' μ' ρ' φ η fr lv' → Grow fr.length μ (fr.length + lv.length) H μ' (fr.length + lv'.length) H' → ErrR F.z c μ' (fr.length + lv'.length) H' v d → F.W (.ref (F.z.exA c)) (some d) σ' H'
  | .bad => False
def TSo (F : Fm) (m : MtS) : TS := fun D σ H => ∃ μ ρ φ η fr lv, Here F σ H μ ρ φ η fr lv ∧ GoS F D H μ φ η fr lv (m ρ φ η fr lv)
abbrev exm (G : Orc) (c : S) : MtS := fun ρ φ η fr lv => exec G fr φ η c ρ lv
abbrev exsm (G : Orc) (cs : List S) : MtS := fun ρ φ η fr lv => execs G fr φ η cs ρ lv
theorem _root_.L2.PSs.imp {X : Cx} {e : List Stmt} {t t' : TS} (h : PSs X e t) (i : ∀ D σ H, t' D σ H → t D σ H) : PSs X e t' := ⟨fun pins s σ H D I q => h.run pins s σ H D I (i _ _ _ q)⟩
section
variable {X : Cx} {F : Fm} {G : Orc} {D : Ends} {σ : L2.St} {H H' : Hp} {μ μ' : Nat → Addr} {ρ : Env} {φ : List FV} {η : Option (Nat × List Sv.D)} {fr lv lv' : Sto}
theorem GoS.back {x : RS} (g : Grow fr.length μ (fr.length + lv.length) H μ' (fr.length + lv'.length) H') (h : GoS F D H μ φ η fr lv x) : GoS F D H' μ' φ η fr lv' x := by
  cases x with
  | ok ρ f s => exact fun σ2 H2 μ2 h2 g2 => h σ2 H2 μ2 h2 (Grow.trans (Nat.le_add_right _ _) g g2)
  | ex c v ρ s => exact fun d σ2 H2 μ2 h2 g2 y => h d σ2 H2 μ2 h2 (Grow.trans (Nat.le_add_right _ _) g g2) y
  | bad => exact h
/-- an expression ahead -/
theorem GoS.of {α β : Type} {Y : (Nat → Addr) → Nat → Hp → α → β → Prop} {x : R α} {f : α → Sto → RS} (ft : Fits X F) (hh : Here F σ H μ ρ φ η fr lv) (h : GoS F D H μ φ η fr lv (RS.of x ρ f)) :
    Go F Y σ H μ fr lv x fun b H1 => ∃ a s μ1, Here F σ H1 μ1 ρ φ η fr s ∧ Grow fr.length μ (fr.length + lv.length) H μ1 (fr.length + s.length) H1 ∧ Y μ1 (fr.length + s.length) H1 a b ∧ GoS F D H1 μ1 φ η fr s (f a s) := by
  cases x with
  | ok a s => exact fun b H1 μ1 r g y => ⟨a, s, μ1, hh.grow ft.clo r g, g, y, GoS.back g h⟩
  | ex c v s => exact fun d H1 μ1 r g y => h d σ H1 μ1 (hh.grow ft.clo r g) g y
  | bad => exact h
theorem te_stm {ma : Mt Sv.D} {f : Sv.D → Sto → RS} (ft : Fits X F) (hh : Here F σ H μ ρ φ η fr lv) (h : GoS F D H μ φ η fr lv (RS.of (ma ρ φ η fr lv) ρ f)) :
    TEo F ma σ H fun x H1 => ∃ d s μ1, Here F σ H1 μ1 ρ φ η fr s ∧ Grow fr.length μ (fr.length + lv.length) H μ1 (fr.length + s.length) H1 ∧ Rp F.z μ1 (fr.length + s.length) H1 d x ∧ GoS F D H1 μ1 φ η fr s (f d s) :=
  ⟨μ, ρ, φ, η, fr, lv, hh, GoS.of (Y := YV F) ft hh h⟩
theorem tt_stm {ma : Mt Bool} {f : Bool → Sto → RS} (ft : Fits X F) (hh : Here F σ H μ ρ φ η fr lv) (h : GoS F D H μ φ η fr lv (RS.of (ma ρ φ η fr lv) ρ f)) :
    TTo F ma σ H fun b H1 => ∃ s μ1, Here F σ H1 μ1 ρ φ η fr s ∧ GoS F D H1 μ1 φ η fr s (f b s) :=
  ⟨μ, ρ, φ, η, fr, lv, hh, (GoS.of (Y := fun _ _ _ a b => a = b) ft hh h).imp fun b H1 ⟨a, s, μ1, h1, _, y, k⟩ => by
    obtain rfl := y
    exact ⟨s, μ1, h1, k⟩⟩
theorem GoS.nx {ρ' : Env} (h : GoS F D H μ φ η fr lv (.ok ρ' .nx lv)) (hh : Here F σ H μ ρ' φ η fr lv) : D.nx σ H := h σ H μ hh .refl
theorem GoS.rt {ρ' : Env} {d : Sv.D} {v : V} (h : GoS F D H μ φ η fr lv (.ok ρ' (.rt d) lv)) (hh : Here F σ H μ ρ' φ η fr lv) (r : Rp F.z μ (fr.length + lv.length) H d v) : D.rt v H := h σ H μ hh .refl v r
/-! ### blocks -/
theorem sd_nil : PSs X [] (TSo F (exsm G [])) := pss_nil.imp fun D σ H ⟨μ, ρ, φ, η, fr, lv, hh, g⟩ => by
  simp only [exsm, execs] at g
  exact g.nx hh
theorem sd_cons {st : Stmt} {rest : List Stmt} {c : S} {cs : List S} (h1 : PS X st (TSo F (exm G c))) (h2 : PSs X rest (TSo F (exsm G cs))) : PSs X (st :: rest) (TSo F (exsm G (c :: cs))) :=
  (pss_cons h1 h2).imp fun D σ H ⟨μ, ρ, φ, η, fr, lv, hh, g⟩ => by
    simp only [exsm, execs] at g
    refine ⟨μ, ρ, φ, η, fr, lv, hh, ?_⟩
    show GoS F _ H μ φ η fr lv (exec G fr φ η c ρ lv)
    cases e : exec G fr φ η c ρ lv with
    | bad => rw [e] at g; exact g
    | ex k v ρ1 s => rw [e] at g; exact g
    | ok ρ1 f s =>
      rw [e] at g
      cases f with
      | nx => exact fun σ1 H1 μ1 h1 g1 => ⟨μ1, ρ1, φ, η, fr, s, h1, GoS.back g1 g⟩
      | rt d => exact g
      | bk => exact g
      | ct => exact g
/-! ### small statements -/
theorem sd_pass {pos : Pos} : PS X (.Pass pos) (TSo F (exm G .pass)) := ps_pass.imp fun D σ H ⟨μ, ρ, φ, η, fr, lv, hh, g⟩ => by
  simp only [exm, exec] at g
  exact g.nx hh
theorem sd_brk {pos : Pos} : PS X (.Break pos) (TSo F (exm G .brk)) := ps_break.imp fun D σ H ⟨μ, ρ, φ, η, fr, lv, hh, g⟩ => by
  simp only [exm, exec] at g
  exact g σ H μ hh .refl
theorem sd_cnt {pos : Pos} : PS X (.Continue pos) (TSo F (exm G .cnt)) := ps_continue.imp fun D σ H ⟨μ, ρ, φ, η, fr, lv, hh, g⟩ => by
  simp only [exm, exec] at g
  exact g σ H μ hh .refl
theorem sd_doc {x j pos pos'} : PS X (.Expr (.Constant (.str x) j pos) pos') (TSo F (exm G .pass)) := ps_doc.imp fun D σ H ⟨μ, ρ, φ, η, fr, lv, hh, g⟩ => by
  simp only [exm, exec] at g
  exact g.nx hh
theorem sd_expr (ft : Fits X F) {e : Expr} {c : C} {pos : Pos} (he : PE X e (TEo F (evm G c))) (hs : swapsWith e none pos.line X.env = pure false) : PS X (.Expr e pos) (TSo F (exm G (.expr c))) :=
  (ps_expr he hs).imp fun D σ H ⟨μ, ρ, φ, η, fr, lv, hh, g⟩ => by
    simp only [exm, exec] at g
    exact (te_stm (ma := evm G c) ft hh g).mono fun x H1 ⟨d, s, μ1, h1, g1, r1, k1⟩ => k1.nx h1
theorem sd_ret (ft : Fits X F) {e : Expr} {c : C} {pos : Pos} (he : PE X e (TEo F (evm G c))) : PS X (.Return (some e) pos) (TSo F (exm G (.ret c))) :=
  (ps_ret he).imp fun D σ H ⟨μ, ρ, φ, η, fr, lv, hh, g⟩ => by
    simp only [exm, exec] at g
    exact (te_stm (ma := evm G c) ft hh g).mono fun x H1 ⟨d, s, μ1, h1, g1, r1, k1⟩ => k1.rt h1 r1
theorem sd_retN {pos : Pos} : PS X (.Return none pos) (TSo F (exm G .retN)) := ps_retN.imp fun D σ H ⟨μ, ρ, φ, η, fr, lv, hh, g⟩ => by
  simp only [exm, exec] at g
  exact g.rt hh rp_sc.2.2.2
theorem _root_.Sv.TTo.mono {m : Mt Bool} {Q Q' : Bool → Hp → Prop} (h : TTo F m σ H Q) (i : ∀ x H', Q x H' → Q' x H') : TTo F m σ H Q' := by
  obtain ⟨μ, ρ, φ, η, fr, lv, hh, g⟩ := h
  exact ⟨μ, ρ, φ, η, fr, lv, hh, g.imp i⟩
theorem sd_if (ft : Fits X F) {e : Expr} {a b : List Stmt} {c : C} {ca cb : List S} {pos : Pos} (he : PT X e (TTo F (evb G c))) (ha : PSs X a (TSo F (exsm G ca))) (hb : PSs X b (TSo F (exsm G cb))) : PS X (.If e a b pos) (TSo F (exm G (.ifs c ca cb))) :=
  (ps_if he ha hb).imp fun D σ H ⟨μ, ρ, φ, η, fr, lv, hh, g⟩ => by
    simp only [exm, exec] at g
    refine (tt_stm (ma := evb G c) ft hh g).mono fun t H1 ⟨s, μ1, h1, k1⟩ => ?_
    cases t with
    | true => exact ⟨μ1, ρ, φ, η, fr, s, h1, k1⟩
    | false => exact ⟨μ1, ρ, φ, η, fr, s, h1, k1⟩
/-! ### targets -/
def GoT (F : Fm) (H : Hp) (μ : Nat → Addr) (φ : List FV) (η : Option (Nat × List Sv.D)) (fr lv : Sto) (σ : L2.St) (x : R Env) (Q : L2.St → Hp → Prop) : Prop := match x with
  | .ok ρ' lv' => ∀ σ' H' μ', Here F σ' H' μ' ρ' φ η fr lv' → Grow fr.length μ (fr.length + lv.length) H μ' (fr.length + lv'.length) H' → Q σ' H'
  | _ => False
abbrev MtT := Sv.D → Env → List FV → Option (Nat × List Sv.D) → Sto → Sto → R Env
def TGo (F : Fm) (m : MtT) : TG := fun v σ H Q => ∃ μ ρ φ η fr lv d, Here F σ H μ ρ φ η fr lv ∧ Rp F.z μ (fr.length + lv.length) H d v ∧ GoT F H μ φ η fr lv σ (m d ρ φ η fr lv) Q
abbrev asm (G : Orc) (t : T) : MtT := fun d ρ φ η fr lv => asg G fr φ η t d ρ lv
abbrev asN (t : T) : MtT := fun d ρ _ _ _ lv => R.of (asgN ρ t d) lv
theorem _root_.L2.PG.imp {X : Cx} {e : Expr} {t t' : TG} (h : PG X e t) (i : ∀ v σ H Q, t' v σ H Q → t v σ H Q) : PG X e t' := ⟨fun pins s σ H v u Q I r q => h.run pins s σ H v u Q I r (i _ _ _ _ q)⟩
/-- a slot that holds no def, nor the error in hand -/
def SlotOk (F : Fm) (i : Nat) : Prop := (i < F.np ∨ F.np + F.nf ≤ i) ∧ ∀ j a, F.xs = some (j, a) → i ≠ j
/-- .. is set -/
theorem Here.set {i : Nat} {d : Sv.D} {v : V} (h : Here F σ H μ ρ φ η fr lv) (hi : SlotOk F i) (hv : Rp F.z μ (fr.length + lv.length) H d v) : Here F (σ.set i (some v)) H μ (ρ.set i (some d)) φ η fr lv := by
  refine ⟨h.rel, by rw [List.length_set, List.length_set]; exact h.len, fun j x e => ?_, fun j g e => ?_, h.exn, h.calm, h.nf, fun j a e => by rw [List.getElem?_set_ne (hi.2 j a e)]; exact h.xsl j a e⟩
  · by_cases c : i = j
    · subst c
      have hl : i < ρ.length := by
        have := (List.getElem?_eq_some_iff.mp e).1
        simpa using this
      rw [List.getElem?_set_self hl] at e
      cases e
      exact ⟨v, List.getElem?_set_self (by rw [h.len]; exact hl), hv⟩
    · rw [List.getElem?_set_ne c] at e
      obtain ⟨w, h1, h2⟩ := h.env j x e
      exact ⟨w, by rw [List.getElem?_set_ne c]; exact h1, h2⟩
  · obtain ⟨w, h1, h2⟩ := h.fns j g e
    have hj : j < F.nf := by rw [← h.nf]; exact (List.getElem?_eq_some_iff.mp e).1
    have hi1 := hi.1
    exact ⟨w, by rw [List.getElem?_set_ne (by omega)]; exact h1, h2⟩
theorem gd_name {i : Nat} {x : Str} {pos : Pos} (hN : X.N.Nodup) (hi : X.N[i]? = some x) (hx : Loc X.env.scope x) (hf : X.fn x = true ∨ X.env.scope.names.lookup x = some .local) (hd : SlotOk F i) : PG X (.Name x pos) (TGo F (asm G (.nm i))) :=
  (pg_name hN hi hx hf).imp fun v σ H Q ⟨μ, ρ, φ, η, fr, lv, d, hh, r, g⟩ => by
    simp only [asm, asg] at g
    split at g
    · exact g _ _ _ (hh.set hd r) .refl
    · exact g.elim
/-! ### target = value -/
theorem sd_asg (ft : Fits X F) {tg e : Expr} {t : T} {c : C} {pos : Pos} (he : PE X e (TEo F (evm G c))) (hg : PG X tg (TGo F (asm G t))) (hs : swapsWithSole [tg] e pos.line X.env = pure false) (hw : swappedStores [tg] e X.env = pure none)
    (h1 : (assignEach [tg] X.env).map (·.2) = [assign tg X.env]) : PS X (.Assign [tg] e pos) (TSo F (exm G (.asg t c))) :=
  (ps_asg he hg hs hw h1).imp fun D σ H ⟨μ, ρ, φ, η, fr, lv, hh, g⟩ => by
    simp only [exm, exec] at g
    refine (te_stm (ma := evm G c) ft hh g).mono fun x H1 ⟨d, s, μ1, h1, g1, r1, k1⟩ => ?_
    refine ⟨μ1, ρ, φ, η, fr, s, d, h1, r1, ?_⟩
    show GoT F H1 μ1 φ η fr s σ (asg G fr φ η t d ρ s) D.nx
    cases e : asg G fr φ η t d ρ s with
    | bad => rw [e] at k1; exact k1
    | ex k v s2 => rw [e] at k1; exact k1
    | ok ρ2 s2 =>
      rw [e] at k1
      exact fun σ2 H2 μ2 h2 g2 => k1 σ2 H2 μ2 h2 g2
end
end Sv
end -- Sem10
section -- Sem11
set_option Elab.async false
set_option linter.all false
set_option maxRecDepth 100000
set_option maxHeartbeats 2000000
/-! # Targets; while -/
namespace Sv
open PySem PySem.Spec PyProof.Rows L2

section
variable {X : Cx} {F : Fm} {G : Orc} {D : Ends} {σ : L2.St} {H H' : Hp} {μ μ' : Nat → Addr} {ρ : Env} {φ : List FV} {η : Option (Nat × List Sv.D)} {fr lv lv' : Sto}
/-! ### several targets -/
abbrev MtTs := List Sv.D → Env → List FV → Option (Nat × List Sv.D) → Sto → Sto → R Env
def TGso (F : Fm) (m : MtTs) : TGs := fun vs σ H Q => ∃ μ ρ φ η fr lv ds, Here F σ H μ ρ φ η fr lv ∧ Rps F.z μ (fr.length + lv.length) H ds vs ∧ GoT F H μ φ η fr lv σ (m ds ρ φ η fr lv) Q
abbrev asms (G : Orc) (ts : List T) : MtTs := fun ds ρ φ η fr lv => asgs G fr φ η ts ds ρ lv
theorem _root_.L2.PGs.imp {X : Cx} {e : List Expr} {t t' : TGs} (h : PGs X e t) (i : ∀ v σ H Q, t' v σ H Q → t v σ H Q) : PGs X e t' := ⟨fun pins s σ H v u Q I r q => h.run pins s σ H v u Q I r (i _ _ _ _ q)⟩
theorem GoT.back {x : R Env} {Q : L2.St → Hp → Prop} {σ0 σ1 : L2.St} (g : Grow fr.length μ (fr.length + lv.length) H μ' (fr.length + lv'.length) H') (h : GoT F H μ φ η fr lv σ0 x Q) : GoT F H' μ' φ η fr lv' σ1 x Q := by
  cases x with
  | ok ρ s => exact fun σ2 H2 μ2 h2 g2 => h σ2 H2 μ2 h2 (Grow.trans (Nat.le_add_right _ _) g g2)
  | ex c v s => exact h
  | bad => exact h
theorem GoT.bind {x : R Env} {f : Env → Sto → R Env} {Q : L2.St → Hp → Prop} (h : GoT F H μ φ η fr lv σ (x.bind f) Q) :
    GoT F H μ φ η fr lv σ x fun σ1 H1 => ∃ ρ1 s μ1, Here F σ1 H1 μ1 ρ1 φ η fr s ∧ Grow fr.length μ (fr.length + lv.length) H μ1 (fr.length + s.length) H1 ∧ GoT F H1 μ1 φ η fr s σ1 (f ρ1 s) Q := by
  cases x with
  | ok ρ s => exact fun σ1 H1 μ1 h1 g1 => ⟨ρ, s, μ1, h1, g1, GoT.back g1 h⟩
  | ex c v s => exact h
  | bad => exact h
theorem gds_nil : PGs X [] (TGso F (asms G [])) := pgs_nil.imp fun vs σ H Q ⟨μ, ρ, φ, η, fr, lv, ds, hh, r, g⟩ => by
  cases ds with
  | nil =>
    simp only [asms, asgs] at g
    simp only [Rps] at r
    exact ⟨r, g _ _ _ hh .refl⟩
  | cons d ds =>
    simp only [asms, asgs] at g
    exact g.elim
theorem gds_cons (ft : Fits X F) {e : Expr} {es : List Expr} {t : T} {ts : List T} (h1 : PG X e (TGo F (asm G t))) (h2 : PGs X es (TGso F (asms G ts))) (hs : (assignEach (e :: es) X.env).map (·.2) = assign e X.env :: (assignEach es X.env).map (·.2)) : PGs X (e :: es) (TGso F (asms G (t :: ts))) :=
  (pgs_cons h1 h2 hs).imp fun vs σ H Q ⟨μ, ρ, φ, η, fr, lv, ds, hh, r, g⟩ => by
    cases ds with
    | nil =>
      simp only [asms, asgs] at g
      exact g.elim
    | cons d ds =>
      simp only [asms, asgs] at g
      simp only [Rps] at r
      obtain ⟨v, vr, rfl, r1, r2⟩ := r
      refine ⟨v, vr, rfl, μ, ρ, φ, η, fr, lv, d, hh, r1, ?_⟩
      have g2 := GoT.bind g
      show GoT F H μ φ η fr lv σ (asg G fr φ η t d ρ lv) _
      cases e : asg G fr φ η t d ρ lv with
      | bad => rw [e] at g2; exact g2
      | ex c v s => rw [e] at g2; exact g2
      | ok ρ1 s1 =>
        rw [e] at g2
        intro σ1 H1 μ1 h1' g1
        obtain ⟨ρ2, s2, μ2, h3, g3, k3⟩ := g2 σ1 H1 μ1 h1' g1
        exact ⟨μ2, ρ2, φ, η, fr, s2, ds, h3, Rps.grow g3 _ _ r2, k3⟩
/-- (a, b, ..) = a tuple -/
theorem gd_tup (ft : Fits X F) {es : List Expr} {k n : Nat} {ts : List T} {pos : Pos} (hc : X.calm = true) (h : PGs X es (TGso F (asms G ts))) (hn : (assignEach es X.env).length = n) (hst : (assignEach es X.env).findIdx? (·.1) = none) (hl : ts.length = n) :
    PG X (.Tuple es k pos) (TGo F (asm G (.tp ts))) :=
  (pg_tup hc h hn hst).imp fun v σ H Q ⟨μ, ρ, φ, η, fr, lv, d, hh, r, g⟩ => by
    simp only [asm, asg] at g
    cases d with
    | tup ds =>
      obtain ⟨a, vs, rfl, h1, h2⟩ := rp_tup r
      have len : ∀ (ts : List T) (ds : List Sv.D) (ρ : Env) (lv : Sto), (∃ ρ' s', asgs G fr φ η ts ds ρ lv = .ok ρ' s') → ts.length = ds.length := by
        intro ts
        induction ts with
        | nil =>
          intro ds ρ lv ⟨ρ', s', e⟩
          cases ds with
          | nil => rfl
          | cons d ds => simp only [asgs] at e; cases e
        | cons t ts ih =>
          intro ds ρ lv ⟨ρ', s', e⟩
          cases ds with
          | nil => simp only [asgs] at e; cases e
          | cons d ds =>
            simp only [asgs] at e
            cases e1 : asg G fr φ η t d ρ lv with
            | bad => rw [e1] at e; cases e
            | ex c v s => rw [e1] at e; cases e
            | ok ρ1 s1 =>
              rw [e1] at e
              rw [List.length_cons, List.length_cons, ih ds ρ1 s1 ⟨ρ', s', e⟩]
      refine ⟨a, vs, rfl, by rw [ft.K]; exact h1, ?_, μ, ρ, φ, η, fr, lv, ds, hh, h2, g⟩
      rw [← h2.length, ← hl]
      refine (len ts ds ρ lv ?_).symm
      have g : GoT F H μ φ η fr lv σ (asgs G fr φ η ts ds ρ lv) Q := g
      cases e : asgs G fr φ η ts ds ρ lv with
      | bad => rw [e] at g; exact g.elim
      | ex c v s => rw [e] at g; exact g.elim
      | ok ρ' s' => exact ⟨ρ', s', rfl⟩
    | _ => exact g.elim
/-! ### o[i] = x -/
theorem listW_of {d : Sv.D} {l : Nat} {xs : List Sv.D} (h : listW fr lv d = some (l, xs)) : d = .ref l ∧ look fr lv l = some (.lst xs) := by
  cases d with
  | ref k =>
    simp only [listW] at h
    cases q : look fr lv k with
    | none => rw [q] at h; cases h
    | some o =>
      rw [q] at h
      cases o with
      | lst ys => cases h; exact ⟨rfl, q⟩
      | _ => cases h
  | _ => cases h
theorem dictW_of {d : Sv.D} {l : Nat} {xs : List (Sv.D × Sv.D)} (h : dictW fr lv d = some (l, xs)) : d = .ref l ∧ look fr lv l = some (.dct xs false) := by
  cases d with
  | ref k =>
    simp only [dictW] at h
    cases q : look fr lv k with
    | none => rw [q] at h; cases h
    | some o =>
      rw [q] at h
      cases o with
      | dct ys lk =>
        cases lk with
        | false => cases h; exact ⟨rfl, q⟩
        | true => cases h
      | _ => cases h
  | _ => cases h
theorem put_live {l : Nat} {o : O} {s : Sto} (h : put fr lv l o = some s) : fr.length ≤ l ∧ l < fr.length + lv.length := by
  unfold Sv.put at h
  split at h
  · assumption
  · cases h
theorem lst_live {Z : Zx} (r : Rel Z μ H fr lv) {l : Nat} {xs : List Sv.D} (hl : fr.length ≤ l) (e : look fr lv l = some (.lst xs)) : ∃ vs, Rps Z μ (fr.length + lv.length) H xs vs ∧ H (μ l) = some (.lst vs) := by
  obtain ⟨vs, h1, h2⟩ := r.obj l _ e
  rw [decide_eq_true hl, if_pos rfl] at h2
  exact ⟨vs, h1, h2⟩
/-- a list that lives is written -/
theorem put_lst {Z : Zx} (r : Rel Z μ H fr lv) {l : Nat} {xs ys : List Sv.D} {vs us : List V} {s : Sto} (h : put fr lv l (.lst ys) = some s) (hv : H (μ l) = some (.lst vs)) (hy : Rps Z μ (fr.length + lv.length) H ys us) :
    Rel Z μ (upd H (μ l) (.lst us)) fr s ∧ Grow fr.length μ (fr.length + lv.length) H μ (fr.length + s.length) (upd H (μ l) (.lst us)) := by
  have gu : Grow 0 μ (fr.length + lv.length) H μ (fr.length + lv.length) (upd H (μ l) (.lst us)) := grow_upd hv (fun _ z => nomatch z) (fun _ _ z => nomatch z) (fun _ z => nomatch z)
  obtain ⟨r2, g2, _⟩ := r.put (ho := .lst us) h (fun u hu => by
    rw [hv] at hu
    cases hu
    exact ⟨(fun _ z => nomatch z), (fun _ _ z => nomatch z), fun _ z => nomatch z⟩) ⟨us, Rps.grow gu _ _ hy, by rw [if_pos rfl]; exact upd_same⟩
  exact ⟨r2, g2⟩
def rSetD (F : Fm) : TSet := fun o i v H Q => ∃ σ μ ρ φ η fr lv do_ di dv, Here F σ H μ ρ φ η fr lv ∧ Rp F.z μ (fr.length + lv.length) H do_ o ∧ Rp F.z μ (fr.length + lv.length) H di i ∧ Rp F.z μ (fr.length + lv.length) H dv v ∧
  ∃ s2, asgSub fr lv do_ di dv = some s2 ∧ ∀ H' μ', Rel F.z μ' H' fr s2 → Grow fr.length μ (fr.length + lv.length) H μ' (fr.length + s2.length) H' → Q H'
theorem set_all (ft : Fits X F) : PSet X (rSetD F) := fun pins s σ H o i v ov iv u Q I ro ri rv ⟨σ', μ, ρ, φ, η, fr, lv, do_, di, dv, hh, po, pi, pv, s2, e, q⟩ => by
  unfold asgSub at e
  cases e1 : listW fr lv do_ with
  | some p =>
    obtain ⟨l, xs⟩ := p
    rw [e1] at e
    obtain ⟨rfl, hl⟩ := listW_of e1
    cases di with
    | int k =>
      simp only at e
      split at e
      · rename_i c
        obtain ⟨hlv, hll⟩ := put_live e
        obtain ⟨_, rfl⟩ := rp_ref po
        obtain ⟨vs, h1, h2⟩ := lst_live hh.rel hlv hl
        obtain ⟨r2, g2⟩ := put_lst (xs := xs) hh.rel e h2 (h1.set pv k.toNat)
        refine set_list pins s σ H _ _ v ov iv u Q I ro ri rv ⟨μ l, vs, k, k.toNat, rfl, rp_int pi, h2, ?_, q _ _ r2 g2⟩
        unfold ixN
        have hlen := h1.length
        rw [if_pos c.1, if_pos (by omega)]
      · cases e
    | _ => cases e
  | none =>
    rw [e1] at e
    unfold Sv.dictSet at e
    cases e2 : dictW fr lv do_ with
    | none => rw [e2] at e; cases e
    | some p =>
      obtain ⟨l, kvs⟩ := p
      rw [e2] at e
      simp only at e
      split at e
      · rename_i c
        obtain ⟨hlv, hll⟩ := put_live e
        obtain ⟨rfl, hl⟩ := dictW_of e2
        obtain ⟨_, rfl⟩ := rp_ref po
        obtain rfl : ov = Value.ref (μ l) := ro
        refine dd_set ft I hh.rel hlv hl c.1 c.2 pi ri pv rv fun s' H' lv' e' r' g' I' => ?_
        rw [e] at e'
        cases e'
        exact ⟨H', I', q _ _ r' g'⟩
      · cases e
theorem gd_sub (ft : Fits X F) {o i : Expr} {co ci : C} {pos : Pos} (ho : PE X o (TEo F (evm G co))) (hi : PE X i (TEo F (evm G ci)))
    (ha : ∀ v, assign (.Subscript o i pos) X.env v = (do
      let ov ← holding [v] (eval o X.env)
      let iv ← holding [v, ov] (eval i X.env)
      standAt pos
      holding [v, ov, iv] (setItem ov iv v)
      release [v, ov, iv] [])) : PG X (.Subscript o i pos) (TGo F (asm G (.sub co ci))) :=
  (pg_sub ho hi (set_all ft) ha).imp fun v σ H Q ⟨μ, ρ, φ, η, fr, lv, d, hh, r, g⟩ => by
    simp only [asm, asg] at g
    have ex : ∀ {x : R Sv.D} {f : Sv.D → Sto → R Env} {lv : Sto} {μ : Nat → Addr} {H : Hp}, GoT F H μ φ η fr lv σ (x.bind f) Q → ∃ d s, x = .ok d s := fun {x f lv μ H} g => by
      cases x with
      | ok d s => exact ⟨d, s, rfl⟩
      | ex c v s => exact g.elim
      | bad => exact g.elim
    obtain ⟨d1, s1, e1⟩ := ex g
    rw [e1] at g
    refine ⟨μ, ρ, φ, η, fr, lv, hh, ?_⟩
    show Go F (YV F) σ H μ fr lv (ev G fr φ η co ρ lv) _
    rw [e1]
    intro x H1 μ1 r1 g1 y1
    have h1 := hh.grow ft.clo r1 g1
    have g := GoT.back (σ1 := σ) g1 g
    have g : GoT F H1 μ1 φ η fr s1 σ ((ev G fr φ η ci ρ s1).bind fun y s => match asgSub fr s d1 y d with
      | some s2 => .ok ρ s2
      | none => .bad) Q := g
    obtain ⟨d2, s2, e2⟩ := ex g
    rw [e2] at g
    refine ⟨μ1, ρ, φ, η, fr, s1, h1, ?_⟩
    show Go F (YV F) σ H1 μ1 fr s1 (ev G fr φ η ci ρ s1) _
    rw [e2]
    intro y H2 μ2 r2 g2 y2
    have h2 := h1.grow ft.clo r2 g2
    have g := GoT.back (σ1 := σ) g2 g
    have g : GoT F H2 μ2 φ η fr s2 σ (match asgSub fr s2 d1 d2 d with
      | some s2 => .ok ρ s2
      | none => .bad) Q := g
    cases e3 : asgSub fr s2 d1 d2 d with
    | none => rw [e3] at g; exact g.elim
    | some s3 =>
      rw [e3] at g
      refine ⟨σ, μ2, ρ, φ, η, fr, s2, d1, d2, d, h2, Rp.grow g2 _ _ y1, y2, Rp.grow g2 _ _ (Rp.grow g1 _ _ r), s3, e3, fun H3 μ3 r3 g3 => ?_⟩
      exact g _ _ _ (h2.grow ft.clo r3 g3) g3

/-! ### x += e -/
theorem sd_aug (ft : Fits X F) {i : Nat} {x : Str} {e : Expr} {c : C} {pos' pos : Pos} (hi : X.N[i]? = some x) (hx : Loc X.env.scope x) (hf : X.fn x = true ∨ X.env.scope.names.lookup x = some .local) (hd : SlotOk F i) (he : PE X e (TEo F (evm G c))) :
    PS X (.AugAssign (.Name x pos') .Add e pos) (TSo F (exm G (.aug i .add c))) :=
  (ps_aug ft.nd hi hx he ip_add hf).imp fun D σ H ⟨μ, ρ, φ, η, fr, lv, hh, g⟩ => by
    simp only [exm, exec] at g
    cases e1 : varD ρ i with
    | none => rw [e1] at g; exact g.elim
    | some d =>
      rw [e1] at g
      have hr : ρ[i]? = some (some d) := by
        unfold varD at e1
        split at e1
        · rename_i d' hd'
          cases e1
          exact hd'
        · cases e1
      obtain ⟨v, h1, h2⟩ := hh.env i d hr
      refine ⟨v, h1, (te_stm (ma := evm G c) ft hh g).mono fun y H1 ⟨dy, s, μ1, h3, g3, r3, k3⟩ => ?_⟩
      cases d with
      | int a =>
        cases dy with
        | int b =>
          refine ⟨a, b, rp_int h2, rp_int r3, ?_⟩
          have k3 : GoS F D H1 μ1 φ η fr s (.ok (ρ.set i (some (.int (a + b)))) .nx s) := k3
          exact k3.nx (h3.set hd (rp_sc.2.1 _))
        | _ => exact k3.elim
      | _ => exact k3.elim
/-! ### names exchanged -/
theorem sd_par2 (ft : Fits X F) {i j : Nat} {x y : Str} {a b : Expr} {cs : List C} {px py pt : Pos} {kt k2 pt2} {pos : Pos} (hc : X.calm = true) (hi : X.N[i]? = some x) (hj : X.N[j]? = some y) (hij : i ≠ j) (hx : X.env.scope.names.lookup x = some .local) (hy : X.env.scope.names.lookup y = some .local)
    (di : SlotOk F i) (dj : SlotOk F j) (ha : PA X [a, b] (TAo F (evsm G cs))) (hw : swappedStores [.Tuple [.Name x px, .Name y py] kt pt] (.Tuple [a, b] k2 pt2) X.env = pure (some [x, y])) (hs : swapsWithSole [.Tuple [.Name x px, .Name y py] kt pt] (.Tuple [a, b] k2 pt2) pos.line X.env = pure false) :
    PS X (.Assign [.Tuple [.Name x px, .Name y py] kt pt] (.Tuple [a, b] k2 pt2) pos) (TSo F (exm G (.asgp [i, j] cs))) :=
  (ps_par hc ft.nd hi hj hij hx hy ha hw hs).imp fun D σ H ⟨μ, ρ, φ, η, fr, lv, hh, g⟩ => by
    simp only [exm, exec] at g
    refine ⟨μ, ρ, φ, η, fr, lv, hh, (GoS.of (Y := YL F) ft hh g).imp fun vs H1 ⟨ds, s, μ1, h1, g1, y1, k1⟩ => ?_⟩
    cases e : setAll ρ [i, j] ds with
    | none => simp only [e] at k1; exact k1.elim
    | some ρ1 =>
      simp only [e] at k1
      match ds, e with
      | [d1, d2], e =>
        simp only [YL, Rps] at y1
        obtain ⟨v1, r1, rfl, q1, v2, r2, rfl, q2, rfl⟩ := y1
        simp only [setAll] at e
        split at e
        · split at e
          · cases e
            exact ⟨v1, v2, rfl, k1.nx ((h1.set di q1).set dj q2)⟩
          · cases e
        · cases e
      | [], e => simp [setAll] at e
      | [_], e => simp [setAll] at e
      | _ :: _ :: _ :: _, e =>
        simp only [setAll] at e
        split at e
        · split at e
          · cases e
          · cases e
        · cases e
theorem sd_par3 (ft : Fits X F) {i j l : Nat} {x y z : Str} {a b c : Expr} {cs : List C} {px py pz pt : Pos} {kt k2 pt2} {pos : Pos} (hc : X.calm = true) (hi : X.N[i]? = some x) (hj : X.N[j]? = some y) (hl : X.N[l]? = some z) (hij : i ≠ j) (hil : i ≠ l) (hjl : j ≠ l)
    (hx : X.env.scope.names.lookup x = some .local) (hy : X.env.scope.names.lookup y = some .local) (hz : X.env.scope.names.lookup z = some .local)
    (di : SlotOk F i) (dj : SlotOk F j) (dl : SlotOk F l) (ha : PA X [a, b, c] (TAo F (evsm G cs)))
    (hw : swappedStores [.Tuple [.Name x px, .Name y py, .Name z pz] kt pt] (.Tuple [a, b, c] k2 pt2) X.env = pure (some [x, y, z])) (hs : swapsWithSole [.Tuple [.Name x px, .Name y py, .Name z pz] kt pt] (.Tuple [a, b, c] k2 pt2) pos.line X.env = pure false) :
    PS X (.Assign [.Tuple [.Name x px, .Name y py, .Name z pz] kt pt] (.Tuple [a, b, c] k2 pt2) pos) (TSo F (exm G (.asgp [i, j, l] cs))) :=
  (ps_par3 hc ft.nd hi hj hl hij hil hjl hx hy hz ha hw hs).imp fun D σ H ⟨μ, ρ, φ, η, fr, lv, hh, g⟩ => by
    simp only [exm, exec] at g
    refine ⟨μ, ρ, φ, η, fr, lv, hh, (GoS.of (Y := YL F) ft hh g).imp fun vs H1 ⟨ds, s, μ1, h1, g1, y1, k1⟩ => ?_⟩
    cases e : setAll ρ [i, j, l] ds with
    | none => simp only [e] at k1; exact k1.elim
    | some ρ1 =>
      simp only [e] at k1
      match ds, e with
      | [d1, d2, d3], e =>
        simp only [YL, Rps] at y1
        obtain ⟨v1, r1, rfl, q1, v2, r2, rfl, q2, v3, r3, rfl, q3, rfl⟩ := y1
        simp only [setAll] at e
        split at e
        · split at e
          · split at e
            · cases e
              exact ⟨v1, v2, v3, rfl, k1.nx (((h1.set di q1).set dj q2).set dl q3)⟩
            · cases e
          · cases e
        · cases e
      | [], e => simp [setAll] at e
      | [_], e => simp [setAll] at e
      | [_, _], e => simp [setAll] at e
      | _ :: _ :: _ :: _ :: _, e =>
        simp only [setAll] at e
        split at e
        · split at e
          · split at e
            · cases e
            · cases e
          · cases e
        · cases e
/-! ### o.f = e -/
theorem putFs {Z : Zx} {K : PySem.W.Frag} (cf : ClsF K Z) {n : Nat} {fs : List (Nat × Sv.D)} {vs : List (Str × V)} (h : Paired (fun p q => (p.1 ∈ Z.ats ∧ q.1 = Z.atN p.1) ∧ Rp Z μ n H p.2 q.2) fs vs) {f : Nat} (hf : f ∈ Z.ats) {d : Sv.D} {v : V} (hv : Rp Z μ n H d v) :
    Paired (fun p q => (p.1 ∈ Z.ats ∧ q.1 = Z.atN p.1) ∧ Rp Z μ n H p.2 q.2) (Sv.putF f d fs) (L2.putF (Z.atN f) v vs) := by
  induction h with
  | nil => exact .cons ⟨⟨hf, rfl⟩, hv⟩ .nil
  | @cons p q fs vs r t ih =>
    obtain ⟨g, dv⟩ := p
    obtain ⟨y, w⟩ := q
    obtain ⟨⟨r0, r1⟩, r2⟩ := r
    simp only at r0 r1 r2
    subst r1
    simp only [Sv.putF, L2.putF]
    by_cases c : g = f
    · subst c
      rw [if_pos rfl, if_pos rfl]
      exact .cons ⟨⟨r0, rfl⟩, hv⟩ t
    · rw [if_neg c, if_neg fun z => c (cf.inj _ r0 _ hf z)]
      exact .cons ⟨⟨r0, rfl⟩, r2⟩ ih
theorem put_ins {Z : Zx} (r : Rel Z μ H fr lv) {l c : Nat} {dx : Addr} {fs : List (Nat × Sv.D)} {vs us : List (Str × V)} {s : Sto} (h : put fr lv l (.ins c fs) = some s) (hv : H (μ l) = some (.ins (Z.clA c) dx vs))
    (hcs : c ∈ Z.cs) (hy : Paired (fun p q => (p.1 ∈ Z.ats ∧ q.1 = Z.atN p.1) ∧ Rp Z μ (fr.length + lv.length) H p.2 q.2) fs us) :
    Rel Z μ (upd H (μ l) (.ins (Z.clA c) dx us)) fr s ∧ Grow fr.length μ (fr.length + lv.length) H μ (fr.length + s.length) (upd H (μ l) (.ins (Z.clA c) dx us)) := by
  have gu : Grow 0 μ (fr.length + lv.length) H μ (fr.length + lv.length) (upd H (μ l) (.ins (Z.clA c) dx us)) := grow_upd hv (fun _ z => nomatch z) (fun _ _ z => nomatch z) (fun _ z => nomatch z)
  obtain ⟨r2, g2, _⟩ := r.put (ho := .ins (Z.clA c) dx us) h (fun u hu => by
    rw [hv] at hu
    cases hu
    exact ⟨(fun _ z => nomatch z), (fun _ _ z => nomatch z), fun _ z => nomatch z⟩) ⟨dx, us, upd_same, hcs, pairedG (fun _ _ q => ⟨q.1, Rp.grow gu _ _ q.2⟩) hy⟩
  exact ⟨r2, g2⟩
theorem sd_asf (ft : Fits X F) (cf : ClsF X.K F.z) {o e : Expr} {co c : C} {f : Nat} {y : Str} {pos' pos : Pos} (hf : f ∈ F.z.ats) (hy : F.z.atN f = y) (ho : PE X o (TEo F (evm G co))) (he : PE X e (TEo F (evm G c))) (hs : swapsWith e (some (.Attribute o y pos')) pos.line X.env = pure false) :
    PS X (.Assign [.Attribute o y pos'] e pos) (TSo F (exm G (.asf co f c))) :=
  (ps_fld ho he hs).imp fun D σ H ⟨μ, ρ, φ, η, fr, lv, hh, g⟩ => by
    simp only [exm, exec] at g
    refine (te_stm (ma := evm G c) ft hh g).mono fun v H1 ⟨d, s, μ1, h1, g1, r1, k1⟩ => ?_
    refine (te_stm (ma := evm G co) ft h1 k1).mono fun x H2 ⟨dx, s2, μ2, h2, g2, r2, k2⟩ => ?_
    cases e1 : insAt fr s2 dx with
    | none => simp only [e1] at k2; exact k2.elim
    | some p =>
      obtain ⟨l, cl, fs⟩ := p
      simp only [e1] at k2
      obtain ⟨rfl, hl⟩ := insAt_of e1
      obtain ⟨_, rfl⟩ := rp_ref r2
      obtain ⟨da, vs, h3, hcs, h4⟩ := h2.rel.obj l _ hl
      split at k2
      · rename_i hlen
        cases e2 : put fr s2 l (.ins cl (Sv.putF f d fs)) with
        | none => simp only [e2] at k2; exact k2.elim
        | some s3 =>
          simp only [e2] at k2
          obtain ⟨r3, g3⟩ := put_ins h2.rel e2 h3 hcs (putFs cf h4 hf (Rp.grow g2 _ _ r1))
          refine ⟨μ2 l, F.z.clA cl, da, vs, rfl, h3, cf.cls cl hcs, ?_, by rw [← pairedLen h4]; omega, ?_⟩
          · rw [← hy]
            exact cf.no cl hcs f hf
          · rw [← hy]
            exact k2 _ _ μ2 (h2.grow ft.clo r3 g3) g3
      · exact k2.elim
/-! ### while -/
theorem sd_while (ft : Fits X F) (hp : PassesOwn (model X.prog X.w) X.A X.env X.xe) {e : Expr} {b : List Stmt} {c : C} {cs : List S} {pos : Pos} (he : PT X e (TTo F (evb G c))) (hb : PSs X b (TSo F (exsm G cs))) : PS X (.While e b [] pos) (TSo F (exm G (.whl c cs))) :=
  (ps_while hp he hb).imp fun D σ H ⟨μ, ρ, φ, η, fr, lv, hh, g⟩ => by
    simp only [exm, exec] at g
    refine ⟨fun m σ H => ∃ μ ρ lv, Here F σ H μ ρ φ η fr lv ∧ GoS F D H μ φ η fr lv (whileE (fun ρ s => (ev G fr φ η c ρ s).bind fun x s => asBool x s) (fun ρ s => execs G fr φ η cs ρ s) m ρ lv), ⟨G.turns, μ, ρ, lv, hh, g⟩, ?_⟩
    rintro m σ1 H1 ⟨μ1, ρ1, lv1, h1, g1⟩
    cases m with
    | zero => exact g1.elim
    | succ m =>
      simp only [whileE] at g1
      refine (tt_stm (ma := evb G c) ft h1 g1).mono fun t H2 ⟨s2, μ2, h2, k2⟩ => ?_
      cases t with
      | false => exact k2.nx h2
      | true =>
        rw [if_pos rfl]
        refine ⟨fun σ' H' => ∃ μ ρ lv, Here F σ' H' μ ρ φ η fr lv ∧ GoS F D H' μ φ η fr lv (whileE (fun ρ s => (ev G fr φ η c ρ s).bind fun x s => asBool x s) (fun ρ s => execs G fr φ η cs ρ s) m ρ lv), fun σ' H' h => ⟨m, Nat.lt_succ_self m, h⟩, μ2, ρ1, φ, η, fr, s2, h2, ?_⟩
        show GoS F _ H2 μ2 φ η fr s2 (execs G fr φ η cs ρ1 s2)
        have k2 : GoS F D H2 μ2 φ η fr s2 (match execs G fr φ η cs ρ1 s2 with
          | .ok ρ .nx s => whileE (fun ρ s => (ev G fr φ η c ρ s).bind fun x s => asBool x s) (fun ρ s => execs G fr φ η cs ρ s) m ρ s
          | .ok ρ .ct s => whileE (fun ρ s => (ev G fr φ η c ρ s).bind fun x s => asBool x s) (fun ρ s => execs G fr φ η cs ρ s) m ρ s
          | .ok ρ .bk s => .ok ρ .nx s
          | .ok ρ (.rt v) s => .ok ρ (.rt v) s
          | .ex c v ρ s => .ex c v ρ s
          | .bad => .bad) := k2
        cases e3 : execs G fr φ η cs ρ1 s2 with
        | bad => rw [e3] at k2; exact k2
        | ex k v ρ3 s3 => rw [e3] at k2; exact k2
        | ok ρ3 f s3 =>
          rw [e3] at k2
          cases f with
          | nx => exact fun σ3 H3 μ3 h3 g3 => ⟨μ3, ρ3, s3, h3, GoS.back g3 k2⟩
          | ct => exact fun σ3 H3 μ3 h3 g3 => ⟨μ3, ρ3, s3, h3, GoS.back g3 k2⟩
          | bk => exact k2
          | rt d => exact k2
end
end Sv
end -- Sem11
section -- Lk
set_option Elab.async false
set_option linter.all false
set_option maxRecDepth 100000
set_option maxHeartbeats 2000000
/-! # A dict is locked while it is walked -/
namespace Sv
open PySem PySem.Spec PyProof.Rows L2

section
variable {X : Cx} {F : Fm} {D : Ends} {σ : L2.St} {H H' H1 : Hp} {μ μ' : Nat → Addr} {fr lv lv' : Sto}
/-- an object that the walk had locked is unlocked, or nothing -/
def Ul (X : Cx) (H H' : Hp) : Prop := H' = H ∨ ∃ d od u, H d = some (.frz od u) ∧ (∀ o' u', X.H_0 d ≠ some (.frz o' u')) ∧ H' = upd H d u
theorem Ul.inv {pins : List (Addr × Obj)} {s : Shared} (u : Ul X H H') (I : Inv X pins σ H s) : Inv X pins σ H' s := by
  rcases u with rfl | ⟨d, od, u, h1, h2, rfl⟩
  · exact I
  · exact I.unlock h1 h2
def Du (X : Cx) (D : Ends) : Ends := ⟨fun σ H => ∃ H', Ul X H H' ∧ D.nx σ H', fun v H => ∃ H', Ul X H H' ∧ D.rt v H', fun σ H => ∃ H', Ul X H H' ∧ D.bk σ H', fun σ H => ∃ H', Ul X H H' ∧ D.ct σ H'⟩
theorem ps_unl {st : Stmt} {t : TS} (h : PS X st t) : PS X st (fun D σ H => t (Du X D) σ H) := by
  refine ⟨fun pins s σ H D I hw => ?_⟩
  refine thn (h.run pins s σ _ _ I hw) fun f s1 q => ?_
  cases f with
  | next => obtain ⟨σ', H', I2, H2, e, q⟩ := q; exact ⟨σ', _, e.inv I2, q⟩
  | brk => obtain ⟨σ', H', I2, H2, e, q⟩ := q; exact ⟨σ', _, e.inv I2, q⟩
  | cont => obtain ⟨σ', H', I2, H2, e, q⟩ := q; exact ⟨σ', _, e.inv I2, q⟩
  | ret v => obtain ⟨x, σ', H', I2, r, H2, e, q⟩ := q; exact ⟨x, σ', _, e.inv I2, r, q⟩
theorem pe_unl {e : Expr} {t : TE} (h : PE X e t) : PE X e (fun σ H Q => t σ H fun v H' => ∃ H2, Ul X H' H2 ∧ Q v H2) := by
  refine ⟨fun pins s σ H Q I hw => ?_⟩
  refine thn (h.run pins s σ _ _ I hw) fun v s1 ⟨x, H1, I2, r, H2, e2, q⟩ => ?_
  exact ⟨x, _, e2.inv I2, r, q⟩

/-- how the walked dict is locked -/
def Lk (X : Cx) (H1 H' : Hp) (μ : Nat → Addr) (fr lv : Sto) : Wt → Prop
  | .dict l kvs => ∃ lk od es, look fr lv l = some (.dct kvs lk) ∧ H' (μ l) = some (.frz od (dictO es (μ l))) ∧
      (H' = H1 ∨ (H1 (μ l) = some (dictO es (μ l)) ∧ (∀ o' u', X.H_0 (μ l) ≠ some (.frz o' u')) ∧ H' = upd H1 (μ l) (.frz od (dictO es (μ l)))))
  | _ => H' = H1
theorem put_len {l : Nat} {o : O} {s : Sto} (h : put fr lv l o = some s) : s.length = lv.length := by
  unfold Sv.put at h
  split at h
  · cases h; simp
  · cases h
theorem lockS_dict {l : Nat} {kvs : List (Sv.D × Sv.D)} : lockS fr lv (.dict l kvs) = (put fr lv l (.dct kvs true)).getD lv := rfl
theorem unlockS_dict {l : Nat} {kvs : List (Sv.D × Sv.D)} {b : Bool} : unlockS fr lv b (.dict l kvs) = if b = true then lv else (put fr lv l (.dct kvs false)).getD lv := rfl
theorem lockS_len (w : Wt) : (lockS fr lv w).length = lv.length := by
  cases w with
  | dict l kvs =>
    rw [lockS_dict]
    cases e : put fr lv l (.dct kvs true) with
    | none => rfl
    | some s => exact put_len e
  | _ => rfl
theorem unlockS_len (b : Bool) (w : Wt) : (unlockS fr lv b w).length = lv.length := by
  cases w with
  | dict l kvs =>
    rw [unlockS_dict]
    split
    · rfl
    · cases e : put fr lv l (.dct kvs false) with
      | none => rfl
      | some s => exact put_len e
  | _ => rfl
/-- what stands at a place behind a write -/
theorem look_put {l k : Nat} {o : O} {s : Sto} (h : put fr lv l o = some s) : look fr s k = if k = l then some o else look fr lv k := by
  unfold Sv.put at h
  split at h
  · rename_i c
    cases h
    unfold look
    by_cases hk : k = l
    · subst hk
      rw [if_pos rfl, List.getElem?_append_right c.1, List.getElem?_set_self (by omega)]
    · rw [if_neg hk]
      by_cases hkf : k < fr.length
      · rw [List.getElem?_append_left hkf, List.getElem?_append_left hkf]
      · rw [List.getElem?_append_right (by omega), List.getElem?_append_right (by omega), List.getElem?_set_ne (by omega)]
  · cases h
theorem put_none {l : Nat} {o : O} {u : O} (h : put fr lv l o = none) (e : look fr lv l = some u) : l < fr.length := by
  have := look_lt e
  unfold Sv.put at h
  split at h
  · cases h
  · omega
theorem wr_put {l : Nat} {o : O} {s : Sto} (h : put fr lv l o = some s) : decide (fr.length ≤ l) = true := decide_eq_true (put_live h).1
/-- tuples and the fields of errors stay -/
structure Gr0 (Z : Zx) (H H' : Hp) : Prop where
  sqt : ∀ a vs, SqT Z.K H a vs → SqT Z.K H' a vs
  xds : ∀ b u, H b = some (.xd u) → H' b = some (.xd u)
section
variable {Z : Zx} {n : Nat}
theorem Gr0.refl : Gr0 Z H H := ⟨fun _ _ h => h, fun _ _ h => h⟩
theorem Grow.gr0 {f n' : Nat} (g : Grow f μ n H μ' n' H') : Gr0 Z H H' := ⟨fun _ _ h => g.sqt h, g.xds⟩
mutual
theorem Rp.gr0 (g : Gr0 Z H H') : ∀ (d : Sv.D) (v : V), Rp Z μ n H d v → Rp Z μ n H' d v
  | .non, _, h => by simpa only [Rp] using h
  | .bl _, _, h => by simpa only [Rp] using h
  | .int _, _, h => by simpa only [Rp] using h
  | .str _, _, h => by simpa only [Rp] using h
  | .tup xs, v, h => by
    simp only [Rp] at h ⊢
    obtain ⟨a, vs, rfl, h1, h2⟩ := h
    exact ⟨a, vs, rfl, g.sqt _ _ h1, Rps.gr0 g xs vs h2⟩
  | .ref l, v, h => by simpa only [Rp] using h
theorem Rps.gr0 (g : Gr0 Z H H') : ∀ (ds : List Sv.D) (vs : List V), Rps Z μ n H ds vs → Rps Z μ n H' ds vs
  | [], _, h => by simpa only [Rps] using h
  | d :: ds, vs, h => by
    simp only [Rps] at h ⊢
    obtain ⟨v, r, rfl, h1, h2⟩ := h
    exact ⟨v, r, rfl, Rp.gr0 g d v h1, Rps.gr0 g ds r h2⟩
end
theorem EnR.gr0 (g : Gr0 Z H H') {p : Sv.D × Sv.D} {e : DictEntry} (h : EnR Z μ n H p e) : EnR Z μ n H' p e := by
  obtain ⟨h1, h2, ⟨v, h3, h4⟩, ⟨u, h5, h6⟩⟩ := h
  exact ⟨h1, h2, ⟨v, h3, Rp.gr0 g _ _ h4⟩, ⟨u, h5, Rp.gr0 g _ _ h6⟩⟩
theorem ObjR.gr0 (g : Gr0 Z H H') {wr : Bool} {a : Addr} (e : ∀ u, H a = some u → H' a = some u) : ∀ {o : O}, ObjR Z μ n H wr a o → ObjR Z μ n H' wr a o
  | .lst xs, h => by
    obtain ⟨vs, h1, h2⟩ := h
    refine ⟨vs, Rps.gr0 g _ _ h1, ?_⟩
    cases wr with
    | true => exact e _ h2
    | false => exact h2.elim (fun z => .inl (e _ z)) fun ⟨o, z⟩ => .inr ⟨o, e _ z⟩
  | .dct kvs lk, h => by
    obtain ⟨h1, h2, h3, es, h4, h5⟩ := h
    refine ⟨h1, h2, h3, es, pairedG (fun _ _ q => q.gr0 g) h4, ?_⟩
    split
    · rename_i c
      rw [if_pos c] at h5
      exact e _ h5
    · rename_i c
      rw [if_neg c] at h5
      exact h5.elim (fun z => .inl (e _ z)) fun ⟨o, z⟩ => .inr ⟨o, e _ z⟩
  | .ins c fs, h => by
    obtain ⟨dx, vs, h1, hc, h2⟩ := h
    exact ⟨dx, vs, e _ h1, hc, pairedG (fun _ _ q => ⟨q.1, Rp.gr0 g _ _ q.2⟩) h2⟩
end
theorem Here.move {ρ : Sv.Env} {φ : List FV} {η : Option (Nat × List Sv.D)} (h : Here F σ H μ ρ φ η fr lv) (r : Rel F.z μ H' fr lv') (e : lv'.length = lv.length) (g : Gr0 F.z H H') : Here F σ H' μ ρ φ η fr lv' := by
  refine ⟨r, h.len, fun i d q => ?_, fun j x q => ?_, fun c v q => ?_, h.calm, h.nf, h.xsl⟩
  · obtain ⟨v, h1, h2⟩ := h.env i d q
    exact ⟨v, h1, by rw [e]; exact Rp.gr0 g _ _ h2⟩
  · obtain ⟨v, h1, h2⟩ := h.fns j x q
    refine ⟨v, h1, h2.elim .inl fun ⟨a, vs, a1, a2, a3⟩ => .inr ⟨a, vs, a1, a2, ?_⟩⟩
    rw [e]
    exact Rps.gr0 g _ _ a3
  · obtain ⟨d, h1, fs, h2, h4, h3⟩ := h.exn c v q
    refine ⟨d, h1, fs, g.xds _ _ h2, h4, ?_⟩
    rw [e]
    exact Rps.gr0 g _ _ h3
theorem dictO_ne_xd {es : Array DictEntry} {a : Addr} {xs} : dictO es a ≠ .xd xs := fun z => by unfold dictO at z; cases z
/-- data, where a dict's object is locked or unlocked -/
theorem gr0_upd {Z : Zx} {a : Addr} {u ho : HO} (h : H a = some u) (n1 : ∀ xs, u ≠ .tup xs) (n2 : ∀ o xs, u ≠ .frz o (.tup xs)) (n3 : ∀ x, u ≠ .xd x) : Gr0 Z H (upd H a ho) := by
  refine ⟨fun b vs q => ?_, fun b x q => by rw [upd_ne (fun z => by subst z; rw [h] at q; exact n3 x (Option.some.inj q))]; exact q⟩
  rcases q with (q | ⟨o, q⟩) | q
  · exact .inl (.inl (by rw [upd_ne (fun z => by subst z; rw [h] at q; exact n1 vs (Option.some.inj q))]; exact q))
  · exact .inl (.inr ⟨o, by rw [upd_ne (fun z => by subst z; rw [h] at q; exact n2 o vs (Option.some.inj q))]; exact q⟩)
  · exact .inr q
theorem frz_ne {es : Array DictEntry} {a : Addr} {od : Obj} : (∀ xs, HO.frz od (dictO es a) ≠ .tup xs) ∧ (∀ o xs, HO.frz od (dictO es a) ≠ .frz o (.tup xs)) ∧ ∀ x, HO.frz od (dictO es a) ≠ .xd x :=
  ⟨(fun _ z => nomatch z), fun o xs z => dictO_ne_tup (HO.frz.inj z).2, fun _ z => nomatch z⟩
/-- a walk over nothing that has to be locked -/
theorem lk_none {w : Wt} (h : w.isDict = false) (l : Lk X H1 H' μ fr lv w) : H' = H1 ∧ (∀ fr lv, lockS fr lv w = lv) ∧ ∀ fr lv b, unlockS fr lv b w = lv := by
  cases w with
  | dict _ _ => cases h
  | none => exact ⟨l, fun _ _ => rfl, fun _ _ _ => rfl⟩
  | lists _ => exact ⟨l, fun _ _ => rfl, fun _ _ _ => rfl⟩
theorem Lk.start {Z : Zx} {w : Wt} (r : Rel Z μ H1 fr lv) (l : Lk X H1 H' μ fr lv w) : Rel Z μ H' fr (lockS fr lv w) ∧ Gr0 Z H1 H' := by
  cases w with
  | none => obtain rfl := l; exact ⟨r, .refl⟩
  | lists _ => obtain rfl := l; exact ⟨r, .refl⟩
  | dict p kvs =>
    obtain ⟨lk, od, es, e, hf, l⟩ := l
    have gr : Gr0 Z H1 H' := by
      rcases l with rfl | ⟨h1, _, rfl⟩
      · exact .refl
      · exact gr0_upd h1 (fun _ => dictO_ne_tup) (fun _ _ => dictO_ne_frz) fun _ => dictO_ne_xd
    -- each object in the locked heap
    have ob : ∀ k o, look fr lv k = some o → k ≠ p → ObjR Z μ (fr.length + lv.length) H' (decide (fr.length ≤ k)) (μ k) o := fun k o q hk => (r.obj k o q).gr0 gr fun u hu => by
      rcases l with rfl | ⟨h1, _, rfl⟩
      · exact hu
      · rw [upd_ne (fun z => hk (r.inj k p (look_lt q) (look_lt e) z))]
        exact hu
    have op : ∀ wr lk2, (wr = true ∧ lk2 = false → False) → ObjR Z μ (fr.length + lv.length) H' wr (μ p) (.dct kvs lk2) := fun wr lk2 c => by
      obtain ⟨a1, a2, a3, es2, a4, a5⟩ := r.obj p _ e
      refine ⟨a1, a2, a3, es2, pairedG (fun _ _ q => q.gr0 gr) a4, ?_⟩
      rw [if_neg c]
      have a6 : Rd H1 (μ p) (dictO es2.toArray (μ p)) := by
        split at a5
        · exact .inl a5
        · exact a5
      rcases l with rfl | ⟨h1, _, rfl⟩
      · exact a6
      · rcases a6 with a6 | ⟨o, a6⟩
        · rw [h1] at a6
          exact .inr ⟨od, by rw [upd_same, Option.some.inj a6]⟩
        · rw [h1] at a6
          exact absurd (Option.some.inj a6) dictO_ne_frz
    refine ⟨?_, gr⟩
    rw [lockS_dict]
    cases q : put fr lv p (.dct kvs true) with
    | none =>
      have hp := put_none q e
      refine ⟨r.inj, fun k o hk => ?_⟩
      by_cases c : k = p
      · subst c
        have hk : look fr lv k = some o := hk
        rw [e] at hk
        cases hk
        exact op _ _ fun z => by have := z.1; simp at this; omega
      · exact ob k o hk c
    | some s =>
      have hl := put_len q
      show Rel Z μ H' fr s
      refine ⟨fun i j hi hj => r.inj i j (by rw [← hl]; exact hi) (by rw [← hl]; exact hj), fun k o hk => ?_⟩
      rw [hl]
      rw [look_put q] at hk
      by_cases c : k = p
      · subst c
        rw [if_pos rfl] at hk
        cases hk
        exact op _ _ fun z => by cases z.2
      · rw [if_neg c] at hk
        exact ob k o hk c
theorem Lk.stop {Z : Zx} {w : Wt} {μe : Nat → Addr} {He : Hp} {lve : Sto} (r : Rel Z μ H1 fr lv) (l : Lk X H1 H' μ fr lv w) (re : Rel Z μe He fr lve) (g : Grow fr.length μ (fr.length + lv.length) H' μe (fr.length + lve.length) He) (st : stays fr lve w = true) :
    ∃ He', Ul X He He' ∧ Rel Z μe He' fr (unlockS fr lve (wasLocked fr lv w) w) ∧ Grow fr.length μ (fr.length + lv.length) H1 μe (fr.length + lve.length) He' ∧ Gr0 Z He He' := by
  cases w with
  | none => obtain rfl := l; exact ⟨He, .inl rfl, re, g, .refl⟩
  | lists _ => obtain rfl := l; exact ⟨He, .inl rfl, re, g, .refl⟩
  | dict p kvs =>
    obtain ⟨lk, od, es, e, hf, l⟩ := l
    have hw : wasLocked fr lv (.dict p kvs) = lk := by simp only [wasLocked, e]
    have hpl := look_lt e
    have em : μe p = μ p := g.mu p hpl
    have hfe : He (μe p) = some (.frz od (dictO es (μ p))) := by rw [em]; exact g.frzs _ _ _ hf
    have hst : ∃ lk2, look fr lve p = some (.dct kvs lk2) := by
      unfold stays at st
      simp only at st
      split at st
      · rename_i ks lk2 q
        have : ks = kvs := of_decide_eq_true st
        subst this
        exact ⟨lk2, q⟩
      · cases st
    obtain ⟨lk2, e2⟩ := hst
    rw [hw]
    obtain ⟨a1, a2, a3, es2, a4, a5⟩ := re.obj p _ e2
    -- a living dict that is frozen is locked
    have nolive : ¬ (decide (fr.length ≤ p) = true ∧ lk2 = false) := fun c => by
      rw [if_pos c, hfe] at a5
      exact absurd (Option.some.inj a5).symm dictO_ne_frz
    rcases l with rfl | ⟨h1, hX, rfl⟩
    · refine ⟨He, .inl rfl, ?_, g, .refl⟩
      cases lk with
      | true => exact re
      | false =>
        rw [unlockS_dict, if_neg Bool.false_ne_true]
        cases q : put fr lve p (.dct kvs false) with
        | none => exact re
        | some s =>
          obtain ⟨b1, b2, b3, es3, b4, b5⟩ := r.obj p _ e
          rw [if_pos ⟨wr_put q, rfl⟩, hf] at b5
          exact absurd (Option.some.inj b5).symm dictO_ne_frz
    · have gr : Gr0 Z He (upd He (μe p) (dictO es (μ p))) := gr0_upd hfe frz_ne.1 frz_ne.2.1 frz_ne.2.2
      have heq : dictO es (μ p) = dictO es2.toArray (μe p) := by
        rw [if_neg nolive] at a5
        rcases a5 with a5 | ⟨o, a5⟩
        · rw [hfe] at a5
          exact absurd (Option.some.inj a5).symm dictO_ne_frz
        · rw [hfe] at a5
          exact (HO.frz.inj (Option.some.inj a5)).2
      have ob : ∀ k o, look fr lve k = some o → k ≠ p → ObjR Z μe (fr.length + lve.length) (upd He (μe p) (dictO es (μ p))) (decide (fr.length ≤ k)) (μe k) o := fun k o q hk => (re.obj k o q).gr0 gr fun u hu => by
        rw [upd_ne (fun z => hk (re.inj k p (look_lt q) (look_lt e2) z))]
        exact hu
      have op : ∀ wr lk3, ObjR Z μe (fr.length + lve.length) (upd He (μe p) (dictO es (μ p))) wr (μe p) (.dct kvs lk3) := fun wr lk3 => by
        refine ⟨a1, a2, a3, es2, pairedG (fun _ _ q => q.gr0 gr) a4, ?_⟩
        rw [heq]
        split
        · exact upd_same
        · exact .inl upd_same
      refine ⟨_, .inr ⟨μe p, od, dictO es (μ p), hfe, by rw [em]; exact hX, rfl⟩, ?_, ?_, gr⟩
      · have plain : Rel Z μe (upd He (μe p) (dictO es (μ p))) fr lve := ⟨re.inj, fun k o hk => by
          by_cases c : k = p
          · subst c
            rw [e2] at hk
            cases hk
            exact op _ _
          · exact ob k o hk c⟩
        cases lk with
        | true => exact plain
        | false =>
          rw [unlockS_dict, if_neg Bool.false_ne_true]
          cases q : put fr lve p (.dct kvs false) with
          | none => exact plain
          | some s =>
            have hl := put_len q
            show Rel Z μe _ fr s
            refine ⟨fun i j hi hj => re.inj i j (by rw [← hl]; exact hi) (by rw [← hl]; exact hj), fun k o hk => ?_⟩
            rw [hl]
            rw [look_put q] at hk
            by_cases c : k = p
            · subst c
              rw [if_pos rfl] at hk
              cases hk
              exact op _ _
            · rw [if_neg c] at hk
              exact ob k o hk c
      · have ne : ∀ b u, He b = some u → (∀ o x, u ≠ .frz o x) → upd He (μe p) (dictO es (μ p)) b = some u := fun b u hb hu => by
          rw [upd_ne (fun z => by subst z; rw [hfe] at hb; exact hu _ _ (Option.some.inj hb).symm)]
          exact hb
        have n1 : ∀ b u, H1 b = some u → u ≠ dictO es (μ p) → upd H1 (μ p) (.frz od (dictO es (μ p))) b = some u := fun b u hb hu => by
          rw [upd_ne (fun z => by subst z; rw [h1] at hb; exact hu (Option.some.inj hb).symm)]
          exact hb
        refine ⟨g.le, g.mu, fun b xs q => ?_, fun b o u q => ?_, fun b u q => ?_, fun k hk u q => ?_⟩
        · exact ne _ _ (g.tups _ _ (n1 b _ q fun z => dictO_ne_tup z.symm)) fun _ _ z => nomatch z
        · have hb : b ≠ μe p := fun z => by
            rw [z, em, h1] at q
            exact dictO_ne_frz (Option.some.inj q)
          rw [upd_ne hb]
          exact g.frzs _ _ _ (n1 b _ q fun z => dictO_ne_frz z.symm)
        · exact ne _ _ (g.xds _ _ (n1 b _ q fun z => dictO_ne_xd z.symm)) fun _ _ z => nomatch z
        · by_cases c : μ k = μ p
          · rw [c] at q ⊢
            rw [h1] at q
            cases q
            rw [em]
            exact upd_same
          · rw [em, upd_ne c]
            exact g.old k hk u (by rw [upd_ne c]; exact q)
end
end Sv
end -- Lk
section -- Sem12
set_option Elab.async false
set_option linter.all false
set_option maxRecDepth 100000
set_option maxHeartbeats 2000000
/-! # What a loop walks -/
namespace Sv
open PySem PySem.Spec PyProof.Rows L2

section
variable {X : Cx} {F : Fm} {G : Orc} {D : Ends} {σ : L2.St} {H H' : Hp} {μ μ' : Nat → Addr} {ρ : Env} {φ : List FV} {η : Option (Nat × List Sv.D)} {fr lv lv' : Sto}
/-- J goes through ds, as long as what it leans on stays -/
def Src (F : Fm) (H0 : Hp) (μ0 : Nat → Addr) (fr lv0 : Sto) (ds : List Sv.D) (w : Wt) (J : It) : Prop :=
  ∀ (i : Nat) (μ : Nat → Addr) (lv : Sto) (H : Hp), Rel F.z μ H fr lv → Grow fr.length μ0 (fr.length + lv0.length) H0 μ (fr.length + lv.length) H → stays fr lv w = true →
    (∀ d, ds[i]? = some d → J.go i H ∧ ∀ x H', J.yld i H x H' → (∀ b u, H b = some u → H' b = some u) ∧ Rp F.z μ (fr.length + lv.length) H' d x) ∧
    (ds.length ≤ i → J.stop i H)
def GoI (X : Cx) (F : Fm) (σ : L2.St) (H : Hp) (μ : Nat → Addr) (fr lv : Sto) (x : R (List Sv.D × Wt)) (R' : It → Hp → Prop) : Prop := match x with
  | .ok p lv' => ∀ J H1 H' μ', Rel F.z μ' H1 fr lv' → Grow fr.length μ (fr.length + lv.length) H μ' (fr.length + lv'.length) H1 → Lk X H1 H' μ' fr lv' p.2 → Src F H' μ' fr (lockS fr lv' p.2) p.1 p.2 J → R' J H'
  | .ex c v lv' => ∀ d H' μ', Rel F.z μ' H' fr lv' → Grow fr.length μ (fr.length + lv.length) H μ' (fr.length + lv'.length) H' → ErrR F.z c μ' (fr.length + lv'.length) H' v d → F.W (.ref (F.z.exA c)) (some d) σ H'
  | .bad => False
abbrev MtI := Mt (List Sv.D × Wt)
def TIo (X : Cx) (F : Fm) (m : MtI) : TI := fun σ H R' => ∃ μ ρ φ η fr lv, Here F σ H μ ρ φ η fr lv ∧ GoI X F σ H μ fr lv (m ρ φ η fr lv) R'
abbrev evIm (G : Orc) (it : I) : MtI := fun ρ φ η fr lv => evI G fr φ η it ρ lv
theorem _root_.L2.PI.imp {X : Cx} {tg e : Expr} {t t' : TI} (h : PI X tg e t) (i : ∀ σ H Q, t' σ H Q → t σ H Q) : PI X tg e t' := ⟨fun pins s σ H Q I q => h.run pins s σ H Q I (i _ _ _ q)⟩
theorem GoI.back {x : R (List Sv.D × Wt)} {Q : It → Hp → Prop} (g : Grow fr.length μ (fr.length + lv.length) H μ' (fr.length + lv'.length) H') (h : GoI X F σ H μ fr lv x Q) : GoI X F σ H' μ' fr lv' x Q := by
  cases x with
  | ok a s => exact fun b H2 H3 μ2 r g2 y => h b H2 H3 μ2 r (Grow.trans (Nat.le_add_right _ _) g g2) y
  | ex c v s => exact fun d H2 μ2 r g2 y => h d H2 μ2 r (Grow.trans (Nat.le_add_right _ _) g g2) y
  | bad => exact h
theorem GoI.bind {α β : Type} {Y : (Nat → Addr) → Nat → Hp → α → β → Prop} {x : R α} {f : α → Sto → R (List Sv.D × Wt)} {Q : It → Hp → Prop} (h : GoI X F σ H μ fr lv (x.bind f) Q) :
    Go F Y σ H μ fr lv x fun b H1 => ∃ a s μ1, x = .ok a s ∧ Rel F.z μ1 H1 fr s ∧ Grow fr.length μ (fr.length + lv.length) H μ1 (fr.length + s.length) H1 ∧ Y μ1 (fr.length + s.length) H1 a b ∧ GoI X F σ H1 μ1 fr s (f a s) Q := by
  cases x with
  | ok a s => exact fun b H1 μ1 r g y => ⟨a, s, μ1, rfl, r, g, y, GoI.back g h⟩
  | ex c v s => exact h
  | bad => exact h
/-! ### lists, tuples, texts -/
theorem src_list {Z : Zx} {K : PySem.W.Frag} {l : Nat} {xs : List Sv.D} {H : Hp} {μ : Nat → Addr} {fr lv : Sto} (r : Rel F.z μ H fr lv) (hl : look fr lv l = some (.lst xs)) : Src F H μ fr lv xs (.lists [(l, xs)]) (Itl X.K (μ l)) := by
  intro i μ2 lv2 H2 r2 g2 st
  have e2 : look fr lv2 l = some (.lst xs) := by
    have := (List.all_eq_true.mp (show ([(l, xs)] : List (Nat × List Sv.D)).all (fun p => decide (look fr lv2 p.1 = some (.lst p.2))) = true from st)) (l, xs) (by simp)
    exact of_decide_eq_true this
  have em : μ2 l = μ l := g2.mu l (look_lt hl)
  obtain ⟨vs, h1, h2⟩ := (r2.obj l _ e2).lst
  rw [em] at h2
  refine ⟨fun d hd => ?_, fun h => ⟨vs, .inl h2, by rw [← h1.length]; exact h⟩⟩
  obtain ⟨v, h3, h4⟩ := h1.get hd
  refine ⟨⟨vs, v, .inl h2, h3⟩, fun x H' ⟨e, hy⟩ => ?_⟩
  subst e
  have := hy vs (.inl h2)
  rw [h3] at this
  cases this
  exact ⟨fun _ _ h => h, h4⟩
theorem src_tup (ft : Fits X F) {a : Addr} {xs : List Sv.D} {vs : List V} {H : Hp} {μ : Nat → Addr} {fr lv : Sto} (h1 : SqT F.z.K H a vs) (h2 : Rps F.z μ (fr.length + lv.length) H xs vs) : Src F H μ fr lv xs .none (Itt X.K a) := by
  intro i μ2 lv2 H2 r2 g2 st
  have k1 : SqT X.K H2 a vs := by rw [ft.K]; exact g2.sqt h1
  have k2 := Rps.grow g2 _ _ h2
  refine ⟨fun d hd => ?_, fun h => ⟨vs, k1, by rw [← k2.length]; exact h⟩⟩
  obtain ⟨v, h3, h4⟩ := k2.get hd
  refine ⟨⟨vs, v, k1, h3⟩, fun x H' ⟨e, hy⟩ => ?_⟩
  subst e
  have := hy vs k1
  rw [h3] at this
  cases this
  exact ⟨fun _ _ h => h, h4⟩
theorem src_str {z : Str} {H : Hp} {μ : Nat → Addr} {fr lv : Sto} : Src F H μ fr lv (z.cps.toList.map fun c => .str ⟨#[c]⟩) .none (Its z) := by
  intro i μ2 lv2 H2 r2 g2 st
  refine ⟨fun d hd => ?_, fun h => (show z.cps.size ≤ i by simpa using h)⟩
  rw [List.getElem?_map] at hd
  obtain ⟨c, hc, rfl⟩ := Option.map_eq_some_iff.mp hd
  have hc' : z.cps[i]? = some c := by simpa using hc
  have hi : i < z.cps.size := (Array.getElem?_eq_some_iff.mp hc').1
  refine ⟨hi, fun x H' ⟨e, c', h1, h2⟩ => ?_⟩
  subst e
  rw [hc'] at h1
  cases h1
  subst h2
  exact ⟨fun _ _ h => h, rp_sc.2.2.1 _⟩
theorem src_rng {lo : Int} {n : Nat} {H : Hp} {μ : Nat → Addr} {fr lv : Sto} : Src F H μ fr lv (rngL lo n) .none (Itr lo n) := by
  intro i μ2 lv2 H2 r2 g2 st
  unfold rngL
  refine ⟨fun d hd => ?_, fun h => (show n ≤ i by simpa using h)⟩
  rw [List.getElem?_map] at hd
  obtain ⟨k, hk, rfl⟩ := Option.map_eq_some_iff.mp hd
  obtain ⟨hi, e⟩ := List.getElem?_eq_some_iff.mp hk
  have hi' : i < n := by simpa using hi
  have ek : k = i := by
    rw [← e]
    simp
  subst ek
  refine ⟨hi', fun x H' ⟨e, h2⟩ => ?_⟩
  subst e h2
  exact ⟨fun _ _ h => h, rp_sc.2.1 _⟩
/-- a reading that is one of two -/
theorem pi_or {tg e : Expr} {t u : TI} (h : PI X tg e t) (h' : PI X tg e u) : PI X tg e (fun σ H R => t σ H R ∨ u σ H R) := ⟨fun pins s σ H Q I q => q.elim (fun q => h.run pins s σ H Q I q) fun q => h'.run pins s σ H Q I q⟩
/-- a list, a tuple, a text by its value; a dict by another rule -/
def iDct (X : Cx) (F : Fm) (te : TE) : TI := fun σ H R' => te σ H fun x H1 => ∃ σ0 μ fr lv l kvs lk, Rel F.z μ H1 fr lv ∧ look fr lv l = some (.dct kvs lk) ∧ x = .ref (μ l) ∧ GoI X F σ0 H1 μ fr lv (.ok (kvs.map (·.1), .dict l kvs) lv) R'
theorem pd_val (ft : Fits X F) {tg e : Expr} {c : C} (he : PE X e (TEo F (evm G c))) (hd : PI X tg e (iDct X F (TEo F (evm G c)))) : PI X tg e (TIo X F (evIm G (.val c))) :=
  (pi_or (pi_list he) (pi_or (pi_tup he) (pi_or (pi_str he) hd))).imp fun σ H R' ⟨μ, ρ, φ, η, fr, lv, hh, g⟩ => by
    simp only [evIm, evI] at g
    cases e1 : ev G fr φ η c ρ lv with
    | bad => rw [e1] at g; exact g.elim
    | ex k v s =>
      rw [e1] at g
      refine .inl ⟨μ, ρ, φ, η, fr, lv, hh, ?_⟩
      show Go F (YV F) σ H μ fr lv (ev G fr φ η c ρ lv) _
      rw [e1]
      exact g
    | ok d s =>
      rw [e1] at g
      have other : (∀ xs, d ≠ .tup xs) → GoI X F σ H μ fr lv (valI fr s d) R' → (iList X.K (TEo F (evm G c)) σ H R' ∨ iTup X.K (TEo F (evm G c)) σ H R' ∨ iStr (TEo F (evm G c)) σ H R' ∨ iDct X F (TEo F (evm G c)) σ H R') := fun n2 g => by
        unfold valI at g
        have ei : itemsOf fr s d = listAt fr s d := by cases d <;> first | rfl | exact absurd rfl (n2 _)
        rw [ei] at g
        cases e2 : listAt fr s d with
        | some xs =>
          rw [e2] at g
          refine .inl ⟨μ, ρ, φ, η, fr, lv, hh, ?_⟩
          show Go F (YV F) σ H μ fr lv (ev G fr φ η c ρ lv) _
          rw [e1]
          intro x H1 μ1 r1 g1 y1
          cases d with
          | ref l =>
            obtain ⟨a, vs, rfl, h1, h2⟩ := listAt_of r1 y1 e2
            obtain ⟨_, ea⟩ := rp_ref y1
            cases ea
            have hl : look fr s l = some (.lst xs) := by
              have := e2
              simp only [listAt] at this
              split at this
              · rename_i ys hy
                cases this
                exact hy
              · cases this
            exact ⟨_, rfl, ⟨vs, .inl h1⟩, g _ _ _ μ1 r1 g1 rfl (src_list (X := X) (Z := F.z) (K := X.K) r1 hl)⟩
          | _ => cases e2
        | none =>
          rw [e2] at g
          cases e3 : dictL fr s d with
          | none => rw [e3] at g; exact g.elim
          | some p =>
            obtain ⟨l, kvs⟩ := p
            rw [e3] at g
            cases d with
            | ref l' =>
              simp only [dictL] at e3
              cases q : look fr s l' with
              | none => rw [q] at e3; cases e3
              | some o =>
                rw [q] at e3
                cases o with
                | dct ks lk =>
                  cases e3
                  refine .inr (.inr (.inr ⟨μ, ρ, φ, η, fr, lv, hh, ?_⟩))
                  show Go F (YV F) σ H μ fr lv (ev G fr φ η c ρ lv) _
                  rw [e1]
                  intro x H1 μ1 r1 g1 y1
                  obtain ⟨_, rfl⟩ := rp_ref y1
                  exact ⟨σ, μ1, fr, s, _, kvs, lk, r1, q, rfl, GoI.back g1 g⟩
                | _ => cases e3
            | _ => cases e3
      cases d with
      | tup xs =>
        refine .inr (.inl ⟨μ, ρ, φ, η, fr, lv, hh, ?_⟩)
        show Go F (YV F) σ H μ fr lv (ev G fr φ η c ρ lv) _
        rw [e1]
        intro x H1 μ1 r1 g1 y1
        obtain ⟨a, vs, rfl, h1, h2⟩ := rp_tup y1
        exact ⟨a, rfl, ⟨vs, by rw [ft.K]; exact h1⟩, g _ _ _ μ1 r1 g1 rfl (src_tup ft h1 h2)⟩
      | str z =>
        refine .inr (.inr (.inl ⟨μ, ρ, φ, η, fr, lv, hh, ?_⟩))
        show Go F (YV F) σ H μ fr lv (ev G fr φ η c ρ lv) _
        rw [e1]
        intro x H1 μ1 r1 g1 y1
        exact ⟨z, rp_str y1, g _ _ _ μ1 r1 g1 rfl src_str⟩
      | non => exact other (fun _ z => nomatch z) g
      | bl b => exact other (fun _ z => nomatch z) g
      | int b => exact other (fun _ z => nomatch z) g
      | ref l => exact other (fun _ z => nomatch z) g
/-! ### range -/
theorem rng_of {a b : Int} {xs : List Sv.D} (h : rngD a b = some xs) : (-(2 ^ 62) ≤ a ∧ a < 2 ^ 62 ∧ -(2 ^ 62) ≤ b ∧ b < 2 ^ 62) ∧ xs = rngL a (b - a).toNat := by
  unfold rngD at h
  split at h
  · rename_i c
    cases h
    exact ⟨⟨by omega, c.2.1, by omega, c.2.2.2.1⟩, rfl⟩
  · cases h
theorem rngI_of {a b : Sv.D} {s : Sto} {Q : It → Hp → Prop} (h : GoI X F σ H μ fr lv (rngI a b s) Q) : ∃ m n, a = .int m ∧ b = .int n ∧ (-(2 ^ 62) ≤ m ∧ m < 2 ^ 62 ∧ -(2 ^ 62) ≤ n ∧ n < 2 ^ 62) ∧ GoI X F σ H μ fr lv (.ok (rngL m (n - m).toNat, .none) s) Q := by
  cases a with
  | int m =>
    cases b with
    | int n =>
      have h : GoI X F σ H μ fr lv (match rngD m n with
        | some xs => R.ok (xs, .none) s
        | none => .bad) Q := h
      cases e : rngD m n with
      | none => rw [e] at h; exact h.elim
      | some xs =>
        rw [e] at h
        obtain ⟨b, rfl⟩ := rng_of e
        exact ⟨m, n, rfl, rfl, b, h⟩
    | _ => exact h.elim
  | _ => exact h.elim
theorem pd_rng1 (ft : Fits X F) {tg a : Expr} {ca : C} {p pos : Pos} (hg : Gl X "range") (hm : X.mg "range" = none) (ha : PA X [a] (TAo F (evsm G [ca]))) (hs : starEach [a] X.env = [(false, eval a X.env)]) : PI X tg (.Call (.Name "range" p) [a] [] pos) (TIo X F (evIm G (.rng1 ca))) :=
  (pi_range1 hg hm ha hs).imp fun σ H R' ⟨μ, ρ, φ, η, fr, lv, hh, g⟩ => by
    simp only [evIm, evI] at g
    refine ⟨μ, ρ, φ, η, fr, lv, hh, ?_⟩
    have e0 : evsm G [ca] ρ φ η fr lv = (ev G fr φ η ca ρ lv).bind fun d s => .ok [d] s := by
      simp only [evsm, evs]
      cases ev G fr φ η ca ρ lv <;> rfl
    rw [e0]
    cases e1 : ev G fr φ η ca ρ lv with
    | bad => rw [e1] at g; exact g
    | ex k v s => rw [e1] at g; exact g
    | ok d s =>
      rw [e1] at g
      show Go F (YL F) σ H μ fr lv (.ok [d] s) _
      intro vs H1 μ1 r1 g1 y1
      simp only [YL, Rps] at y1
      obtain ⟨v, r, rfl, q1, rfl⟩ := y1
      obtain ⟨m, n, e2, rfl, ⟨_, _, b1, b2⟩, g⟩ := rngI_of (GoI.back g1 (show GoI X F σ H μ fr lv (rngI (.int 0) d s) R' from g))
      cases e2
      refine ⟨n, by rw [rp_int q1], b1, b2, g _ _ _ μ1 r1 .refl rfl ?_⟩
      have : (n - 0).toNat = n.toNat := by omega
      show Src F H1 μ1 fr s (rngL 0 (n - 0).toNat) .none _
      rw [this]
      exact src_rng
theorem pd_rng2 (ft : Fits X F) {tg a b : Expr} {ca cb : C} {p pos : Pos} (hg : Gl X "range") (hm : X.mg "range" = none) (ha : PA X [a, b] (TAo F (evsm G [ca, cb]))) (hs : starEach [a, b] X.env = [(false, eval a X.env), (false, eval b X.env)]) (hs2 : starEach [b] X.env = [(false, eval b X.env)]) :
    PI X tg (.Call (.Name "range" p) [a, b] [] pos) (TIo X F (evIm G (.rng2 ca cb))) :=
  (pi_range2 hg hm ha hs hs2).imp fun σ H R' ⟨μ, ρ, φ, η, fr, lv, hh, g⟩ => by
    simp only [evIm, evI] at g
    refine ⟨μ, ρ, φ, η, fr, lv, hh, ?_⟩
    have e0 : evsm G [ca, cb] ρ φ η fr lv = (ev G fr φ η ca ρ lv).bind fun d s => (ev G fr φ η cb ρ s).bind fun e s => .ok [d, e] s := by
      simp only [evsm, evs]
      cases ev G fr φ η ca ρ lv with
      | ok d s =>
        show ((ev G fr φ η cb ρ s).bind fun d2 s2 => (R.ok [] s2).bind fun ds s => R.ok (d2 :: ds) s).bind (fun ds s => .ok (d :: ds) s) = (ev G fr φ η cb ρ s).bind fun e s => .ok [d, e] s
        cases ev G fr φ η cb ρ s <;> rfl
      | _ => rfl
    rw [e0]
    cases e1 : ev G fr φ η ca ρ lv with
    | bad => rw [e1] at g; exact g
    | ex k v s => rw [e1] at g; exact g
    | ok d s =>
      rw [e1] at g
      show Go F (YL F) σ H μ fr lv ((ev G fr φ η cb ρ s).bind fun e s => .ok [d, e] s) _
      have g : GoI X F σ H μ fr lv ((ev G fr φ η cb ρ s).bind fun d' s => rngI d d' s) R' := g
      cases e2 : ev G fr φ η cb ρ s with
      | bad => rw [e2] at g; exact g
      | ex k v s => rw [e2] at g; exact g
      | ok d' s2 =>
        rw [e2] at g
        show Go F (YL F) σ H μ fr lv (.ok [d, d'] s2) _
        intro vs H1 μ1 r1 g1 y1
        simp only [YL, Rps] at y1
        obtain ⟨v, r, rfl, q1, v2, r2, rfl, q2, rfl⟩ := y1
        obtain ⟨m, n, rfl, rfl, b, g⟩ := rngI_of (GoI.back g1 (show GoI X F σ H μ fr lv (rngI d d' s2) R' from g))
        exact ⟨m, n, by rw [rp_int q1, rp_int q2], b, g _ _ _ μ1 r1 .refl rfl src_rng⟩
/-! ### for -/
mutual
theorem asg_names : ∀ (t : T) (d : Sv.D) (ρ : Env) (lv : Sto) (ρ' : Env), asgN ρ t d = some ρ' → asg G fr φ η t d ρ lv = .ok ρ' lv
  | .nm i, d, ρ, lv, ρ', h => by
    simp only [asgN] at h
    simp only [asg]
    split at h
    · rename_i c
      rw [if_pos c]
      cases h
      rfl
    · cases h
  | .tp ts, d, ρ, lv, ρ', h => by
    cases d with
    | tup ds =>
      simp only [asgN] at h
      simp only [asg]
      exact asgs_names ts ds ρ lv ρ' h
    | _ => simp [asgN] at h
  | .sub _ _, d, ρ, lv, ρ', h => by simp [asgN] at h
  | .at _ _, d, ρ, lv, ρ', h => by simp [asgN] at h
theorem asgs_names : ∀ (ts : List T) (ds : List Sv.D) (ρ : Env) (lv : Sto) (ρ' : Env), asgNs ρ ts ds = some ρ' → asgs G fr φ η ts ds ρ lv = .ok ρ' lv
  | [], ds, ρ, lv, ρ', h => by
    cases ds with
    | nil =>
      simp only [asgNs, Option.some.injEq] at h
      subst h
      simp only [asgs]
    | cons d ds => simp [asgNs] at h
  | t :: ts, ds, ρ, lv, ρ', h => by
    cases ds with
    | nil => simp [asgNs] at h
    | cons d ds =>
      simp only [asgNs] at h
      cases e : asgN ρ t d with
      | none => rw [e] at h; cases h
      | some ρ1 =>
        rw [e] at h
        simp only [asgs]
        rw [asg_names t d ρ lv ρ1 e]
        exact asgs_names ts ds ρ1 lv ρ' h
end
theorem gd_names {tg : Expr} {t : T} (h : PG X tg (TGo F (asm G t))) : PG X tg (TGo F (asN t)) := h.imp fun v σ H Q ⟨μ, ρ, φ, η, fr, lv, d, hh, r, g⟩ => by
  refine ⟨μ, ρ, φ, η, fr, lv, d, hh, r, ?_⟩
  show GoT F H μ φ η fr lv σ (asg G fr φ η t d ρ lv) Q
  have g : GoT F H μ φ η fr lv σ (R.of (asgN ρ t d) lv) Q := g
  cases e : asgN ρ t d with
  | none => rw [e] at g; exact g.elim
  | some ρ1 =>
    rw [e] at g
    rw [asg_names t d ρ lv ρ1 e]
    exact g
theorem sd_for (ft : Fits X F) (hp : PassesOwn (model X.prog X.w) X.A X.env X.xe) (hc : X.calm = true) {tg iter : Expr} {body : List Stmt} {t : T} {it : I} {cs : List S} {pos : Pos} (hi : PI X tg iter (TIo X F (evIm G it))) (hg : PG X tg (TGo F (asN t))) (hb : PSs X body (TSo F (exsm G cs)))
    (hs : ∀ x, foldedSetIterable iter X.env x = pure x) : PS X (.For tg iter body [] pos) (TSo F (exm G (.loop t it cs))) :=
  (ps_unl (ps_for hp hc hi hg hb hs)).imp fun D σ H ⟨μ, ρ, φ, η, fr, lv, hh, g⟩ => by
    simp only [exm, exec] at g
    refine ⟨μ, ρ, φ, η, fr, lv, hh, ?_⟩
    show GoI X F σ H μ fr lv (evI G fr φ η it ρ lv) _
    cases e : evI G fr φ η it ρ lv with
    | bad => rw [e] at g; exact g
    | ex k v s => rw [e] at g; exact fun d H1 μ1 r1 g1 y => g d σ H1 μ1 (hh.grow ft.clo r1 g1) g1 y
    | ok p s =>
      obtain ⟨ds, w⟩ := p
      rw [e] at g
      by_cases st0 : stays fr s w = true
      case neg =>
        have e6 : (!stays fr s w) = true := by simpa using st0
        have g : GoS F D H μ φ η fr lv (if !stays fr s w then .bad else _) := g
        rw [if_pos e6] at g
        exact g.elim
      have e7 : ¬(!stays fr s w) = true := by simpa using st0
      have g : GoS F D H μ φ η fr lv (if !stays fr s w then .bad else (loopE (fun d ρ s => match asgN ρ t d with
        | some ρ1 => execs G fr φ η cs ρ1 s
        | none => .bad) (fun s => stays fr s w) ds ρ (lockS fr s w)).mapS w fun s2 => unlockS fr s2 (wasLocked fr s w) w) := g
      rw [if_neg e7] at g
      generalize hbd : (fun (d : Sv.D) (ρ : Sv.Env) (s : Sto) => match asgN ρ t d with
        | some ρ1 => execs G fr φ η cs ρ1 s
        | none => RS.bad) = bd at g
      intro J H1 HL μ1 r1 g1 lk src
      obtain ⟨rL, grL⟩ := lk.start r1
      have h1 := (hh.grow ft.clo r1 g1).move rL (lockS_len w) grL
      have g := GoS.back g1 g
      have stL : stays fr (lockS fr s w) w = true := by
        cases w with
        | none => rfl
        | lists _ => exact st0
        | dict l kvs =>
          obtain ⟨lk0, od, es, e0, _⟩ := lk
          rw [lockS_dict]
          cases q : put fr s l (.dct kvs true) with
          | none => exact st0
          | some s2 =>
            show (match look fr s2 l with
              | some (.dct ks _) => decide (ks = kvs)
              | _ => false) = true
            rw [look_put q, if_pos rfl]
            exact decide_eq_true rfl
      generalize htot : loopE bd (fun s => stays fr s w) ds ρ (lockS fr s w) = tot at g
      -- behind the walk
      have out : ∀ {σe : L2.St} {He : Hp} {μe : Nat → Addr} {ρe : Sv.Env} {lve : Sto}, Here F σe He μe ρe φ η fr lve → Grow fr.length μ1 (fr.length + (lockS fr s w).length) HL μe (fr.length + lve.length) He → stays fr lve w = true →
          ∃ He', Ul X He He' ∧ Here F σe He' μe ρe φ η fr (unlockS fr lve (wasLocked fr s w) w) ∧ Grow fr.length μ1 (fr.length + s.length) H1 μe (fr.length + (unlockS fr lve (wasLocked fr s w) w).length) He' ∧ Gr0 F.z He He' := fun {σe He μe ρe lve} he ge ste => by
        rw [lockS_len] at ge
        obtain ⟨He', u, re, gg, g0⟩ := lk.stop r1 he.rel ge ste
        exact ⟨He', u, he.move re (unlockS_len _ _) g0, by rw [unlockS_len]; exact gg, g0⟩
      refine ⟨fun i m σ' H' => ∃ μ' ρ' lv', Here F σ' H' μ' ρ' φ η fr lv' ∧ Grow fr.length μ1 (fr.length + (lockS fr s w).length) HL μ' (fr.length + lv'.length) H' ∧ stays fr lv' w = true ∧ m = ds.length - i ∧
        tot = loopE bd (fun s => stays fr s w) (ds.drop i) ρ' lv', ⟨_, μ1, ρ, _, h1, .refl, stL, rfl, htot.symm⟩, ?_⟩
      rintro i m σ2 H2 ⟨μ2, ρ2, lv2, h2, g2, st2, rfl, k2⟩
      obtain ⟨s1, s2⟩ := src i μ2 lv2 H2 h2.rel g2 st2
      by_cases hlt : i < ds.length
      · refine .inr ⟨(s1 ds[i] (List.getElem?_eq_getElem hlt)).1, fun σ' H' => ∃ μ' ρ' lv', Here F σ' H' μ' ρ' φ η fr lv' ∧ Grow fr.length μ1 (fr.length + (lockS fr s w).length) HL μ' (fr.length + lv'.length) H' ∧ stays fr lv' w = true ∧
          tot = loopE bd (fun s => stays fr s w) (ds.drop (i + 1)) ρ' lv', fun σ' H' ⟨μ', ρ', lv', a, b, c, d⟩ => ⟨_, by omega, μ', ρ', lv', a, b, c, rfl, d⟩, fun x H3 hy => ?_⟩
        obtain ⟨e3, y3⟩ := (s1 ds[i] (List.getElem?_eq_getElem hlt)).2 x H3 hy
        have r3 := h2.rel.same e3
        have g3 : Grow fr.length μ2 (fr.length + lv2.length) H2 μ2 (fr.length + lv2.length) H3 := Grow.same e3
        have h3 := h2.grow ft.clo r3 g3
        rw [List.drop_eq_getElem_cons hlt] at k2
        simp only [loopE] at k2
        rw [← hbd] at k2
        refine ⟨μ2, ρ2, φ, η, fr, lv2, ds[i], h3, y3, ?_⟩
        show GoT F H3 μ2 φ η fr lv2 σ2 (R.of (asgN ρ2 t ds[i]) lv2) _
        cases e4 : asgN ρ2 t ds[i] with
        | none => simp only [e4] at k2; rw [k2] at g; exact g
        | some ρ4 =>
          simp only [e4] at k2
          rw [hbd] at k2
          intro σ4 H4 μ4 h4 g4
          refine ⟨μ4, ρ4, φ, η, fr, lv2, h4, ?_⟩
          show GoS F _ H4 μ4 φ η fr lv2 (execs G fr φ η cs ρ4 lv2)
          have gg := Grow.trans (Nat.le_add_right _ _) (Grow.trans (Nat.le_add_right _ _) g2 g3) g4
          cases e5 : execs G fr φ η cs ρ4 lv2 with
          | bad => simp only [e5] at k2; rw [k2] at g; exact g
          | ex k v ρ5 s5 =>
            simp only [e5] at k2
            rw [k2] at g
            intro d σ6 H6 μ6 h6 g6 y6
            have g : GoS F D H1 μ1 φ η fr s (if w.isDict then .bad else .ex k v ρ5 (unlockS fr s5 (wasLocked fr s w) w)) := g
            cases hw : w.isDict with
            | true => rw [hw] at g; exact g.elim
            | false =>
              rw [hw, if_neg Bool.false_ne_true] at g
              obtain ⟨q1, q2, q3⟩ := lk_none hw lk
              rw [q3] at g
              have gg6 := Grow.trans (Nat.le_add_right _ _) gg g6
              rw [lockS_len, q1] at gg6
              exact g d σ6 H6 μ6 h6 gg6 y6
          | ok ρ5 f s5 =>
            simp only [e5] at k2
            have fin : ∀ {fl : Fl}, tot = .ok ρ5 fl s5 → stays fr s5 w = true → ∀ σ6 H6 μ6, Here F σ6 H6 μ6 ρ5 φ η fr s5 → Grow fr.length μ4 (fr.length + lv2.length) H4 μ6 (fr.length + s5.length) H6 → ∃ H7, Ul X H6 H7 ∧ Gr0 F.z H6 H7 ∧ match fl with
                | .nx => D.nx σ6 H7
                | .rt d => ∀ v, Rp F.z μ6 (fr.length + s5.length) H7 d v → D.rt v H7
                | .bk => D.bk σ6 H7
                | .ct => D.ct σ6 H7 := fun {fl} et st6 σ6 H6 μ6 h6 g6 => by
              obtain ⟨H7, u, h7, g7, g0⟩ := out h6 (Grow.trans (Nat.le_add_right _ _) gg g6) st6
              rw [et] at g
              have z := g σ6 H7 μ6 h7 g7
              rw [unlockS_len] at z
              exact ⟨H7, u, g0, z⟩
            cases f with
            | nx =>
              simp only at k2
              split at k2
              · rename_i c
                exact fun σ6 H6 μ6 h6 g6 => ⟨μ6, ρ5, s5, h6, Grow.trans (Nat.le_add_right _ _) gg g6, c, k2⟩
              · rw [k2] at g; exact g.elim
            | ct =>
              simp only at k2
              split at k2
              · rename_i c
                exact fun σ6 H6 μ6 h6 g6 => ⟨μ6, ρ5, s5, h6, Grow.trans (Nat.le_add_right _ _) gg g6, c, k2⟩
              · rw [k2] at g; exact g.elim
            | bk =>
              simp only at k2
              split at k2
              · rename_i c
                intro σ6 H6 μ6 h6 g6
                obtain ⟨H7, u, _, z⟩ := fin k2 c σ6 H6 μ6 h6 g6
                exact ⟨H7, u, z⟩
              · rw [k2] at g; exact g.elim
            | rt d =>
              simp only at k2
              split at k2
              · rename_i c
                intro σ6 H6 μ6 h6 g6 v hv
                obtain ⟨H7, u, g0, z⟩ := fin k2 c σ6 H6 μ6 h6 g6
                exact ⟨H7, u, z v (Rp.gr0 g0 _ _ hv)⟩
              · rw [k2] at g; exact g.elim
      · have hge : ds.length ≤ i := Nat.le_of_not_lt hlt
        rw [List.drop_eq_nil_of_le hge] at k2
        simp only [loopE] at k2
        rw [k2] at g
        obtain ⟨H7, u, h7, g7, g0⟩ := out h2 g2 st2
        exact .inl ⟨s2 hge, H7, u, g σ2 H7 μ2 h7 g7⟩
end
end Sv
end -- Sem12
section -- Sem13
set_option Elab.async false
set_option linter.all false
set_option maxRecDepth 100000
set_option maxHeartbeats 2000000
/-! # Built-in functions -/
namespace Sv
open PySem PySem.Spec PyProof.Rows L2

section
variable {X : Cx} {F : Fm} {G : Orc} {σ : L2.St} {H H' : Hp} {μ μ' : Nat → Addr} {fr lv lv' : Sto}
/-- the reading of a built-in, by the interpreter's answer -/
def rB (F : Fm) (g : Sto → Sto → List Sv.D → R Sv.D) : List V → Hp → VK → Prop := fun vs H Q =>
  ∃ σ μ fr lv ds, Rel F.z μ H fr lv ∧ Rps F.z μ (fr.length + lv.length) H ds vs ∧ Go F (YV F) σ H μ fr lv (g fr lv ds) Q
theorem _root_.L2.CallR.imp {X : Cx} {f : Value} {r r' : List V → Hp → VK → Prop} (h : CallR X f r) (i : ∀ vs H Q, r' vs H Q → r vs H Q) : CallR X f r' := fun pins s σ H vs us Q I rs q => h pins s σ H vs us Q I rs (i _ _ _ q)
theorem rps_one {Z : Zx} {n : Nat} {d : Sv.D} {vs : List V} (h : Rps Z μ n H [d] vs) : ∃ v, vs = [v] ∧ Rp Z μ n H d v := by
  simp only [Rps] at h
  obtain ⟨v, r, rfl, h1, rfl⟩ := h
  exact ⟨v, rfl, h1⟩
theorem rps_two {Z : Zx} {n : Nat} {d e : Sv.D} {vs : List V} (h : Rps Z μ n H [d, e] vs) : ∃ v u, vs = [v, u] ∧ Rp Z μ n H d v ∧ Rp Z μ n H e u := by
  simp only [Rps] at h
  obtain ⟨v, r, rfl, h1, u, r2, rfl, h2, rfl⟩ := h
  exact ⟨v, u, rfl, h1, h2⟩
theorem go_map {o : Option α} {f : α → Sv.D} {Q : VK} (g : Go F (YV F) σ H μ fr lv (R.of (o.map f) lv) Q) : ∃ a, o = some a ∧ Go F (YV F) σ H μ fr lv (.ok (f a) lv) Q := by
  cases o with
  | none => exact g.elim
  | some a => exact ⟨a, rfl, g⟩
/-- a list or a tuple -/
theorem items_of {K : PySem.W.Frag} {Z : Zx} (hK : K = Z.K) (r : Rel Z μ H fr lv) {d : Sv.D} {v : V} {xs : List Sv.D} (h : Rp Z μ (fr.length + lv.length) H d v) (e : itemsOf fr lv d = some xs) : ∃ p ys, v = .ref p ∧ (SqL K H p ys ∨ SqT K H p ys) ∧ Rps Z μ (fr.length + lv.length) H xs ys := by
  cases d with
  | tup zs =>
    simp only [itemsOf, Option.some.injEq] at e
    subst e
    obtain ⟨a, vs, rfl, h1, h2⟩ := rp_tup h
    exact ⟨a, vs, rfl, .inr (by rw [hK]; exact h1), h2⟩
  | ref l =>
    obtain ⟨a, vs, rfl, h1, h2⟩ := listAt_of r h (show listAt fr lv (.ref l) = some xs from e)
    exact ⟨a, vs, rfl, .inl (.inl h1), h2⟩
  | _ => exact absurd e (by simp [itemsOf, listAt])
theorem ints_of {Z : Zx} {n : Nat} : ∀ {xs : List Sv.D} {vs : List V} {ns : List Int}, Rps Z μ n H xs vs → intsOf xs = some ns → vs = ns.map V.int
  | [], vs, ns, h, e => by
    simp only [intsOf, Option.some.injEq] at e
    subst e
    simpa only [Rps, List.map_nil] using h
  | d :: xs, vs, ns, h, e => by
    cases d with
    | int i =>
      simp only [intsOf] at e
      obtain ⟨ms, e1, rfl⟩ := Option.map_eq_some_iff.mp e
      simp only [Rps] at h
      obtain ⟨v, r, rfl, h1, h2⟩ := h
      rw [rp_int h1, ints_of h2 e1]
      rfl
    | _ => simp [intsOf] at e
theorem bools_of {Z : Zx} {n : Nat} : ∀ {xs : List Sv.D} {vs : List V} {ns : List Bool}, Rps Z μ n H xs vs → boolsOf xs = some ns → vs = ns.map V.bl
  | [], vs, ns, h, e => by
    simp only [boolsOf, Option.some.injEq] at e
    subst e
    simpa only [Rps, List.map_nil] using h
  | d :: xs, vs, ns, h, e => by
    cases d with
    | bl i =>
      simp only [boolsOf] at e
      obtain ⟨ms, e1, rfl⟩ := Option.map_eq_some_iff.mp e
      simp only [Rps] at h
      obtain ⟨v, r, rfl, h1, h2⟩ := h
      rw [rp_bl h1, bools_of h2 e1]
      rfl
    | _ => simp [boolsOf] at e
theorem strs_of {Z : Zx} {n : Nat} : ∀ {xs : List Sv.D} {vs : List V} {ns : List Str}, Rps Z μ n H xs vs → strsOf xs = some ns → vs = ns.map V.str
  | [], vs, ns, h, e => by
    simp only [strsOf, Option.some.injEq] at e
    subst e
    simpa only [Rps, List.map_nil] using h
  | d :: xs, vs, ns, h, e => by
    cases d with
    | str i =>
      simp only [strsOf] at e
      obtain ⟨ms, e1, rfl⟩ := Option.map_eq_some_iff.mp e
      simp only [Rps] at h
      obtain ⟨v, r, rfl, h1, h2⟩ := h
      rw [rp_str h1, strs_of h2 e1]
      rfl
    | _ => simp [strsOf] at e
/-- what a built-in of one list or tuple is asked -/
theorem one_arg {ds : List Sv.D} {vs : List V} {x : R Sv.D} {Q : VK} {Z : Zx} {n : Nat} {f : List Sv.D → R Sv.D} (h : Rps Z μ n H ds vs) (g : Go F (YV F) σ H μ fr lv (f ds) Q) (h0 : f [] = .bad) (h2 : ∀ a b r, f (a :: b :: r) = .bad) : ∃ d v, ds = [d] ∧ vs = [v] ∧ Rp Z μ n H d v ∧ Go F (YV F) σ H μ fr lv (f [d]) Q := by
  match ds, h, g with
  | [], _, g => rw [h0] at g; exact g.elim
  | [d], h, g =>
    obtain ⟨v, rfl, h1⟩ := rps_one h
    exact ⟨d, v, rfl, rfl, h1, g⟩
  | a :: b :: r, _, g => rw [h2] at g; exact g.elim
theorem cr_abs : CallR X (.builtin "abs") (rB F fun fr lv => bi G.rp fr lv .abs) := call_abs.imp fun vs H Q ⟨σ, μ, fr, lv, ds, r, h, g⟩ => by
  obtain ⟨d, v, rfl, rfl, h1, g⟩ := one_arg (x := .bad) h g rfl (fun a _ _ => by cases a <;> rfl)
  cases d with
  | int i => exact ⟨i, by rw [rp_int h1], Go.now (F := F) (a := D.int _) g r (rp_sc.2.1 _)⟩
  | _ => exact False.elim g
theorem cr_all' (hc : X.calm = true) : CallR X (.builtin "all") (rB F fun fr lv => bi G.rp fr lv .all) := (cr_all hc).imp fun vs H Q ⟨σ, μ, fr, lv, ds, r, h, g⟩ => by
  obtain ⟨d, v, rfl, rfl, h1, g⟩ := one_arg (x := .bad) h g rfl (fun _ _ _ => rfl)
  simp only [bi] at g
  cases e : listAt fr lv d with
  | none => rw [e] at g; exact g.elim
  | some xs =>
    rw [e] at g
    obtain ⟨bs, e2, g⟩ := go_map g
    obtain ⟨a, ws, rfl, h2, h3⟩ := listAt_of r h1 e
    have := bools_of h3 e2
    subst this
    exact ⟨a, bs, rfl, .inl h2, Go.now (F := F) (a := D.bl _) g r (rp_sc.1 _)⟩
theorem cr_sum' (hc : X.calm = true) : CallR X (.builtin "sum") (rB F fun fr lv => bi G.rp fr lv .sum) := (cr_sum hc).imp fun vs H Q ⟨σ, μ, fr, lv, ds, r, h, g⟩ => by
  obtain ⟨d, v, rfl, rfl, h1, g⟩ := one_arg (x := .bad) h g rfl (fun _ _ _ => rfl)
  simp only [bi] at g
  cases e : listAt fr lv d with
  | none => rw [e] at g; exact g.elim
  | some xs =>
    rw [e] at g
    obtain ⟨bs, e2, g⟩ := go_map g
    obtain ⟨a, ws, rfl, h2, h3⟩ := listAt_of r h1 e
    have := ints_of h3 e2
    subst this
    exact ⟨a, bs, rfl, .inl h2, Go.now (F := F) (a := D.int _) g r (rp_sc.2.1 _)⟩
/-! ### len -/
theorem call_len_dictX {w : World} {prog : Program} {A : Around} {E : Value → Shared → Prop} {s : Shared} {d : Addr} {es : Array DictEntry} {ep : Nat} {Q : Value → Shared → Prop} (hd : (d == sysModules) = false) (hm : s.heap.DictRaw d es ep) (hfit : (es.size : Int) < 2 ^ 63)
    (h : Q (.int es.size (s.toks + 1)) { s with toks := s.toks + 1 + 1 }) : wpAny (model prog w) A (call (.builtin "len") [.ref d]) Q E s :=
  Calls.call_function_entry kind_len plain_len entry_len (args_len1 _) (by
    unfold Builtin.«len»
    refine wpAny_bind (m := oneArg "len" _) (wpAny_pure ?_)
    refine wpAny_bind (m := callSpecial? (.ref d) (Str.ofString "__len__")) (wpAny_callSpecial?_slot (name := Str.ofString "__len__") hm.typeIs F.slot_dict_len
      (call_meetsIn F.slot_dict_len hm.typeIs F.entry_dict_len (F.args_dict_len_1 _) (meets_dict_len_raw d hd) ⟨es, ep, hm, ?_⟩))
    show wpAny _ _ _ _ _ { s with toks := s.toks + 1 }
    refine wpAny_bind (wpAny_holding (wpAny_pure ?_))
    refine wpAny_bind (wpAny_letGo ?_)
    show wpAny _ _ (if ((es.size : Nat) : Int) < 0 then _ else _) _ _ _
    rw [if_neg (by omega)]
    show wpAny _ _ (if ((es.size : Nat) : Int) ≥ 2 ^ 63 then _ else _) _ _ _
    rw [if_neg (by omega)]
    exact wpAny_bind (wpAny_mkInt (wpAny_pure ⟨_, rfl, h⟩)))
theorem cr_lenD (ft : Fits X F) : CallR X (.builtin "len") (fun vs H Q => ∃ μ fr lv l kvs lk, Rel F.z μ H fr lv ∧ look fr lv l = some (.dct kvs lk) ∧ vs = [.ref (μ l)] ∧ Q (.int kvs.length) H) := by
  intro pins s σ H vs us Q I rs ⟨μ, fr, lv, l, kvs, lk, r, e, hv, q⟩
  subst hv
  obtain ⟨u, rfl, rx⟩ := vals1 rs
  obtain rfl : u = Value.ref (μ l) := rx
  obtain ⟨xs, h1, h2, h3, h4, h5, m⟩ := dictX ft I r e
  obtain ⟨ep, ho⟩ := m.at_
  have hl : ((xs.map (entO X.w)).toArray).size = kvs.length := by simp [Paired.length h4]
  refine call_len_dictX (es := (xs.map (entO X.w)).toArray) (ep := ep) h1 ⟨_, ho, ⟨rfl, rfl, rfl⟩, rfl⟩ (by rw [hl]; rw [sizeLine_eq] at h2; omega) ?_
  rw [hl]
  exact ⟨.int kvs.length, H, I.tok _, ⟨_, rfl⟩, q⟩
theorem cr_len' (ft : Fits X F) : CallR X (.builtin "len") (rB F fun fr lv ds => bi G.rp fr lv .len ds) := (CallR.or call_len (cr_lenD ft)).imp fun vs H Q ⟨σ, μ, fr, lv, ds, r, h, g⟩ => by
  obtain ⟨d, v, rfl, rfl, h1, g⟩ := one_arg (x := .bad) h g rfl (fun _ _ _ => rfl)
  simp only [bi] at g
  obtain ⟨n, e, g⟩ := go_map g
  have q : Q (.int n) H := Go.now (F := F) (a := D.int _) g r (rp_sc.2.1 _)
  have other : (∀ z, d ≠ .str z) → (match itemsOf fr lv d, dictAt fr lv d with
    | some xs, _ => some (xs.length : Int)
    | none, some kvs => some (kvs.length : Int)
    | none, none => none) = some n → (∃ x n, [v] = [x] ∧ LenV X.K x H n ∧ Q (.int n) H) ∨ (∃ μ fr lv l kvs lk, Rel F.z μ H fr lv ∧ look fr lv l = some (.dct kvs lk) ∧ [v] = [.ref (μ l)] ∧ Q (.int kvs.length) H) := fun _ e => by
    cases e1 : itemsOf fr lv d with
    | some xs =>
      rw [e1] at e
      obtain ⟨p, ys, rfl, h2, h3⟩ := items_of ft.K r h1 e1
      obtain rfl : (xs.length : Int) = n := Option.some.inj e
      refine .inl ⟨_, ys.length, rfl, h2.elim (fun z => .inl ⟨ys, z, rfl⟩) (fun z => .inr ⟨ys, z, rfl⟩), ?_⟩
      rw [← h3.length]
      exact q
    | none =>
      rw [e1] at e
      cases e2 : dictAt fr lv d with
      | none => rw [e2] at e; cases e
      | some kvs =>
        rw [e2] at e
        obtain rfl : (kvs.length : Int) = n := Option.some.inj e
        obtain ⟨l, lk, rfl, e3⟩ := dictAt_of e2
        obtain ⟨_, rfl⟩ := rp_ref h1
        exact .inr ⟨μ, fr, lv, l, kvs, lk, r, e3, rfl, q⟩
  cases d with
  | str z =>
    simp only [lenD] at e
    split at e
    · rename_i c
      obtain rfl : (z.length : Int) = n := Option.some.inj e
      refine .inl ⟨_, z.length, rfl, ?_, q⟩
      rw [rp_str h1]
      exact ⟨Nat.le_trans c lineMax_le, rfl⟩
    · cases e
  | _ => exact other (fun _ z => nomatch z) e
end
end Sv
end -- Sem13
section -- Sem14
set_option Elab.async false
set_option linter.all false
set_option maxRecDepth 100000
set_option maxHeartbeats 2000000
set_option exponentiation.threshold 3000
/-! # list, tuple, int, str, min, max -/
namespace Sv
open PySem PySem.Spec PyProof.Rows L2

section
variable {X : Cx} {F : Fm} {G : Orc} {σ : L2.St} {H H' : Hp} {μ μ' : Nat → Addr} {fr lv lv' : Sto}
/-- the keys, read off a list of values -/
theorem keys_vals {Z : Zx} {n : Nat} {kvs : List (Sv.D × Sv.D)} {xs : List Ent} (h : Paired (xPair Z μ n H) kvs xs) : ∃ vs, Rps Z μ n H (kvs.map (·.1)) vs ∧ Vals vs (xs.map fun x => x.2.1) := by
  induction h with
  | nil => exact ⟨[], by simp only [List.map_nil, Rps], .nil⟩
  | cons q _ ih =>
    obtain ⟨_, _, ⟨v, q1, q2⟩, _⟩ := q
    obtain ⟨vs, i1, i2⟩ := ih
    exact ⟨v :: vs, by simp only [List.map_cons, Rps]; exact ⟨v, vs, rfl, q2, i1⟩, .cons q1 i2⟩
theorem cr_listD (ft : Fits X F) (hc : X.calm = true) : CallR X (.type "list") (fun vs H Q => ∃ μ fr lv l kvs lk, Rel F.z μ H fr lv ∧ look fr lv l = some (.dct kvs lk) ∧ vs = [.ref (μ l)] ∧ ∀ p ys, H p = none → Rps F.z μ (fr.length + lv.length) H (kvs.map (·.1)) ys → Q (.ref p) (upd H p (.lst ys))) := by
  intro pins s σ H vs us Q I rs ⟨μ, fr, lv, l, kvs, lk, r, e, hv, q⟩
  subst hv
  obtain ⟨u, rfl, rx⟩ := vals1 rs
  obtain rfl : u = Value.ref (μ l) := rx
  obtain ⟨xs, h1, h2, h3, h4, h5, m⟩ := dictX ft I r e
  obtain ⟨ep, ho⟩ := m.at_
  have hl : ((xs.map (entO X.w)).toArray).size = kvs.length := by simp [Paired.length h4]
  refine PySem.W.kdl_call (KdlSrc.rawDict (es := (xs.map (entO X.w)).toArray) (ep := ep) h1) (I.ok.hd hc) ⟨_, ho, ⟨rfl, rfl, rfl⟩, rfl⟩ (by rw [hl]; exact h2) fun h' tk acc' c' kp e it => ?_
  have ea : acc'.toList = xs.map fun x => x.2.1 := by
    apply List.ext_getElem?
    intro j
    rw [List.getElem?_map]
    cases hj : acc'.toList[j]? with
    | none =>
      have z1 := List.getElem?_eq_none_iff.mp hj
      have z2 : acc'.toList.length = xs.length := by rw [Array.length_toList, it.1]; simp
      rw [List.getElem?_eq_none (by omega)]
      rfl
    | some v =>
      obtain ⟨hi, hv⟩ := it.2 j v (by rw [← Array.getElem?_toList]; exact hj)
      have hi' : j < xs.length := by simpa using hi
      rw [List.getElem?_eq_getElem hi', hv]
      simp [entO]
  obtain ⟨ys, y1, y2⟩ := keys_vals h4
  rw [← ea] at y2
  have hz : ys.length ≤ sizeLine := by rw [← y1.length, List.length_map]; exact h2
  refine ⟨.ref s.heap.objs.size, _, I.laid (t' := tk) (o := .lst ys) kp (Nat.le_refl _) ?_, rfl, q _ _ (I.hok.fresh (Nat.le_refl _)) y1⟩
  exact ⟨hz, acc'.toList, c', y2, by rw [Array.toArray_toList]; exact e⟩
theorem cr_list' (ft : Fits X F) (hc : X.calm = true) : CallR X (.type "list") (rB F fun fr lv => bi G.rp fr lv .list) := (CallR.or call_list_of (cr_listD ft hc)).imp fun vs H Q ⟨σ, μ, fr, lv, ds, r, h, g⟩ => by
  obtain ⟨d, v, rfl, rfl, h1, g2⟩ := one_arg (x := .bad) h g rfl (fun _ _ _ => rfl)
  clear g
  simp only [bi, walkD] at g2
  cases e1 : itemsOf fr lv d with
  | some xs =>
    rw [e1] at g2
    obtain ⟨p, ys, rfl, h2, h3⟩ := items_of ft.K r h1 e1
    simp only [newL] at g2
    split at g2
    · exact .inl ⟨p, ys, rfl, h2, fun l hl => Go.lst g2 r h3 hl⟩
    · exact g2.elim
  | none =>
    rw [e1] at g2
    cases e2 : dictAt fr lv d with
    | none => rw [e2] at g2; exact g2.elim
    | some kvs =>
      rw [e2] at g2
      obtain ⟨l, lk, rfl, e3⟩ := dictAt_of e2
      obtain ⟨_, rfl⟩ := rp_ref h1
      simp only [newL] at g2
      split at g2
      · exact .inr ⟨μ, fr, lv, l, kvs, lk, r, e3, rfl, fun p ys hp hy => Go.lst g2 r hy hp⟩
      · exact g2.elim
theorem cr_tuple' (ft : Fits X F) : CallR X (.type "tuple") (rB F fun fr lv => bi G.rp fr lv .tuple) := call_tuple_of.imp fun vs H Q ⟨σ, μ, fr, lv, ds, r, h, g⟩ => by
  obtain ⟨d, v, rfl, rfl, h1, g⟩ := one_arg (x := .bad) h g rfl (fun _ _ _ => rfl)
  simp only [bi] at g
  cases e1 : itemsOf fr lv d with
  | none => rw [e1] at g; exact g.elim
  | some xs =>
    rw [e1] at g
    simp only [newT] at g
    split at g
    · obtain ⟨p, ys, rfl, h2, h3⟩ := items_of ft.K r h1 e1
      refine ⟨p, ys, rfl, h2.elim (fun z => .inl ⟨z, fun l hl => Go.tup g r h3 hl⟩) fun z => .inr ⟨z, ?_⟩⟩
      have z' : SqT F.z.K H p ys := by rw [← ft.K]; exact z
      exact g _ _ μ r .refl (by show Rp F.z μ _ H (.tup xs) _; simp only [Rp]; exact ⟨p, ys, rfl, z', h3⟩)
    · exact g.elim
/-! ### int, str -/
theorem digits_all {cs : List Nat} (h : cs.all (fun c => 48 ≤ c && c ≤ 57) = true) : NumText.AllDigits cs := fun c hc => by
  have := List.all_eq_true.mp h c hc
  simpa using this
theorem digitsNat_of {cs : List Nat} {n : Nat} (h : digitsNat cs = some n) : cs ≠ [] ∧ NumText.AllDigits cs ∧ n = NumText.digitsVal cs := by
  unfold digitsNat at h
  split at h
  · cases h
  · rename_i c
    split at h
    · rename_i c2
      cases h
      exact ⟨fun z => by subst z; simp at c, digits_all c2, rfl⟩
    · cases h
theorem intS_of {z : Str} {n : Int} (h : intS z = some n) : PySem.intText? z = some n ∧ z.length ≤ 640 := by
  unfold intS at h
  split at h
  · rename_i c
    refine ⟨?_, c⟩
    split at h
    · rename_i r hr
      obtain ⟨m, h1, rfl⟩ := Option.map_eq_some_iff.mp h
      obtain ⟨a, b, rfl⟩ := digitsNat_of h1
      exact PySem.intText_neg hr b a (by omega)
    · obtain ⟨m, h1, rfl⟩ := Option.map_eq_some_iff.mp h
      obtain ⟨a, b, rfl⟩ := digitsNat_of h1
      exact PySem.intText_digits b a (by omega)
  · cases h
theorem cr_int' : CallR X (.type "int") (rB F fun fr lv => bi G.rp fr lv .int) := (CallR.or call_int1 call_int_str).imp fun vs H Q ⟨σ, μ, fr, lv, ds, r, h, g⟩ => by
  obtain ⟨d, v, rfl, rfl, h1, g⟩ := one_arg (x := .bad) h g rfl (fun a _ _ => by cases a <;> rfl)
  cases d with
  | int i => exact .inl (.inl ⟨i, by rw [rp_int h1], Go.now (F := F) (a := D.int _) g r (rp_sc.2.1 _)⟩)
  | bl b => exact .inl (.inr ⟨b, by rw [rp_bl h1], Go.now (F := F) (a := D.int _) g r (rp_sc.2.1 _)⟩)
  | str z =>
    simp only [bi] at g
    obtain ⟨n, e, g⟩ := go_map g
    obtain ⟨e1, e2⟩ := intS_of e
    exact .inr ⟨z, n, by rw [rp_str h1], e1, e2, Go.now (F := F) (a := D.int _) g r (rp_sc.2.1 _)⟩
  | _ => exact False.elim g
theorem strI_eq (i : Int) : (Str.ofString (toString i)) = strI i := by
  cases i with
  | ofNat n =>
    have := TL.tl_num n
    refine TL.ext_tl ?_
    rw [show (toString (Int.ofNat n)) = toString ((n : Nat) : Int) from rfl, this]
    unfold strI
    rw [if_neg (show ¬ Int.ofNat n < 0 from Int.not_lt.mpr (Int.natCast_nonneg n))]
    rfl
  | negSucc n =>
    refine TL.ext_tl ?_
    have := TL.tl_num (n + 1)
    unfold strI
    rw [if_pos (Int.negSucc_lt_zero n)]
    show (Str.ofString (toString (Int.negSucc n))).cps.toList = _
    rw [PyProof.Rows.signs_ofString]
    show ("-" ++ Nat.repr (n + 1)).toList.map Char.toNat = _
    rw [String.toList_append, List.map_append, Nat.toList_repr]
    rfl
theorem log_lt {i : Int} (h : i.natAbs < 10 ^ 500) : i.natAbs.log2 < 1920 := by
  by_cases e : i.natAbs = 0
  · rw [e]; decide
  · rw [Nat.log2_lt e]
    exact Nat.lt_trans h (by decide)
theorem cr_str' : CallR X (.type "str") (rB F fun fr lv => bi G.rp fr lv .str) := (CallR.or call_str_int SkE.call_str_str).imp fun vs H Q ⟨σ, μ, fr, lv, ds, r, h, g⟩ => by
  obtain ⟨d, v, rfl, rfl, h1, g⟩ := one_arg (x := .bad) h g rfl (fun a _ _ => by cases a <;> rfl)
  simp only [bi] at g
  obtain ⟨z, e, g⟩ := go_map g
  cases d with
  | int i =>
    simp only [strD] at e
    split at e
    · rename_i c
      cases e
      exact .inl ⟨i, by rw [rp_int h1], log_lt c, by
        have := Go.now (F := F) (a := D.str _) g r (rp_sc.2.2.1 _)
        rw [← strI_eq] at this
        exact this⟩
    · cases e
  | str z =>
    cases e
    exact .inr ⟨_, by rw [rp_str h1], Go.now (F := F) (a := D.str _) g r (rp_sc.2.2.1 _)⟩
  | _ => cases e
end
end Sv
end -- Sem14
section -- Pl27
set_option Elab.async false
set_option linter.all false
set_option maxRecDepth 100000
set_option maxHeartbeats 4000000
set_option exponentiation.threshold 3000
namespace Sv.Lw
open PySem (Str PyData tupleText tupleText_len_le)
/-! ### repr of a stream -/
def strData (ws : List (Int × Int)) : PyData := .tuple (ws.map fun p => PyData.tuple [.int p.1, .int p.2])
theorem shown_int (i : Int) : (PyData.shown (.int i)).length = (strL i).length := by
  have : PyData.shown (.int i) = Str.ofString (toString i) := rfl
  rw [this, strI_eq, strI_Tx, Tx_len]
theorem strL_len60 {i : Int} (h : i.natAbs < 10 ^ 60) : (strL i).length ≤ 61 := by
  have b : (digs i.natAbs).length ≤ 60 := digs_len (by decide) h
  unfold strL
  split <;> simp <;> omega
theorem shown_pair {p : Int × Int} (h1 : p.1.natAbs < 10 ^ 60) (h2 : p.2.natAbs < 10 ^ 60) : (PyData.shown (.tuple [.int p.1, .int p.2])).length ≤ 130 := by
  have a := tupleText_len_le [PyData.shown (.int p.1), PyData.shown (.int p.2)]
  have b := strL_len60 h1
  have c := strL_len60 h2
  simp only [List.map_cons, List.map_nil, List.sum_cons, List.sum_nil, shown_int, List.length_cons, List.length_nil] at a
  have e : PyData.shown (.tuple [.int p.1, .int p.2]) = tupleText [PyData.shown (.int p.1), PyData.shown (.int p.2)] := by
    simp only [PyData.shown, PyData.shownAll]
  rw [e]
  omega
theorem shownAll_map (f : Int × Int → PyData) : ∀ ws : List (Int × Int), PyData.shownAll (ws.map f) = ws.map fun p => (f p).shown
  | [] => by simp [PyData.shownAll]
  | p :: ws => by simp only [List.map_cons, PyData.shownAll, shownAll_map f ws]
theorem sum_bound (f : Int × Int → Nat) (m : Nat) : ∀ {ws : List (Int × Int)}, (∀ p ∈ ws, f p ≤ m) → (ws.map f).sum ≤ ws.length * m
  | [], _ => by simp
  | p :: ws, h => by
    have ih := sum_bound f m (ws := ws) fun q hq => h q (List.mem_cons_of_mem _ hq)
    have := h p (by simp)
    simp only [List.map_cons, List.sum_cons, List.length_cons, Nat.add_mul]
    omega
theorem shown_stream {ws : List (Int × Int)} (h : ∀ p ∈ ws, p.1.natAbs < 10 ^ 60 ∧ p.2.natAbs < 10 ^ 60) (hn : ws.length ≤ 900) : (strData ws).shown.length ≤ lineMax := by
  have e : (strData ws).shown = tupleText (ws.map fun p => PyData.shown (.tuple [.int p.1, .int p.2])) := by
    simp only [strData, PyData.shown, shownAll_map]
  rw [e]
  have a := tupleText_len_le (ws.map fun p => PyData.shown (.tuple [.int p.1, .int p.2]))
  have b := sum_bound (fun p => (PyData.shown (.tuple [.int p.1, .int p.2])).length) 130 fun p hp => shown_pair (h p hp).1 (h p hp).2
  simp only [List.map_map, List.length_map] at a
  have c : (List.map (List.length ∘ fun _ => ([] : List Nat)) ws).length = ws.length := by simp
  refine Nat.le_trans a ?_
  have : (List.map ((fun x : Str => x.length) ∘ fun p : Int × Int => PyData.shown (.tuple [.int p.1, .int p.2])) ws).sum ≤ ws.length * 130 := b
  unfold lineMax
  omega
theorem log_60 {i : Int} (h : i.natAbs < 10 ^ 60) : i.natAbs.log2 < 1920 := log_lt (Nat.lt_trans h (by decide))
theorem showable_stream {ws : List (Int × Int)} (h : ∀ p ∈ ws, p.1.natAbs < 10 ^ 60 ∧ p.2.natAbs < 10 ^ 60) : (strData ws).showable = true := by
  unfold strData
  simp only [PyData.showable]
  induction ws with
  | nil => rfl
  | cons p ws ih =>
    simp only [List.map_cons, PyData.showableAll, PyData.showable, Bool.and_eq_true, decide_eq_true_eq]
    exact ⟨⟨log_60 (h p (by simp)).1, log_60 (h p (by simp)).2, trivial⟩, ih fun q hq => h q (by simp [hq])⟩
theorem repr_stream (rp : PyData → Str) (fr lv : Sto) {ws : List (Int × Int)} (h : ∀ p ∈ ws, p.1.natAbs < 10 ^ 60 ∧ p.2.natAbs < 10 ^ 60) (hn : ws.length ≤ 900) : bi rp fr lv .repr [.tup (ws.map pairD)] = .ok (.str (strData ws).shown) lv := by
  have e : reprD fr lv (.tup (ws.map pairD)) = some (strData ws) := pd_stream fr lv ws
  simp only [bi, e, showable_stream h, decide_eq_true (shown_stream h hn), Bool.and_self, if_true]
theorem ne_same (fr lv : Sto) (z : Str) : cop fr lv .ne (.str z) (.str z) = some false := by
  show (some (z == z)).map _ = _
  simp
/-! ### drawn streams, once more -/
theorem drawn_big {many : Int} (hm : many ≤ 10) {ws : List (Int × Int)} (h : ∀ p ∈ ws, Drawn many p) : ∀ p ∈ ws, p.1.natAbs < 10 ^ 60 ∧ p.2.natAbs < 10 ^ 60 := fun p hp => by
  obtain ⟨a, b, c⟩ := h p hp
  have : (10 : Nat) ^ 60 > 10 := by decide
  exact ⟨by omega, c⟩
theorem drawn_small {many : Int} (hm : many ≤ 10) {ws : List (Int × Int)} (h : ∀ p ∈ ws, Drawn many p) : ∀ p ∈ ws, Small p := fun p hp => by
  obtain ⟨a, b⟩ := drawn_big hm h p hp
  have : (10 : Nat) ^ 60 < 10 ^ 500 := by decide
  exact ⟨Nat.lt_trans a this, Nat.lt_trans b this⟩
/-! ### how many parts -/
theorem split_count (sep : Nat) : ∀ cs : List Nat, (splitL sep cs).length = cs.count sep + 1
  | [] => rfl
  | c :: r => by
    have ih := split_count sep r
    by_cases e : c = sep
    · subst e
      rw [split_sep, List.length_cons, ih, List.count_cons_self]
    · rw [List.count_cons_of_ne e]
      cases q : splitL sep r with
      | nil => exact absurd q (splitL_ne sep r)
      | cons w ws =>
        rw [split_cons sep c r w ws e q]
        rw [q] at ih
        exact ih
theorem cut_count (sep c : Nat) (cs : List Nat) (i j : Nat) (h : i ≤ j) : (cs.take i ++ [c] ++ cs.drop j).count sep ≤ cs.count sep + 1 := by
  rw [List.count_append, List.count_append]
  have a : cs.count sep = (cs.take i).count sep + (cs.drop i).count sep := by rw [← List.count_append, List.take_append_drop]
  have b : (cs.drop j).count sep ≤ (cs.drop i).count sep := by
    have : cs.drop j = (cs.drop i).drop (j - i) := by rw [List.drop_drop]; congr 1; omega
    rw [this]
    exact (List.drop_sublist _ _).count_le sep
  have d : ([c] : List Nat).count sep ≤ 1 := by
    refine Nat.le_trans List.count_le_length ?_
    simp
  omega
theorem text_parts {us : List (Int × Int)} (hn : us.length ≤ 800) : (textL us).count 32 ≤ 800 := by
  by_cases e : us = []
  · subst e
    decide
  · have a := split_count 32 (textL us)
    rw [split_text e, List.length_map] at a
    omega
end Sv.Lw
end -- Pl27
section -- Pl28
set_option Elab.async false
set_option linter.all false
set_option maxRecDepth 100000
set_option maxHeartbeats 4000000
set_option exponentiation.threshold 3000
namespace Sv.Lw
open PySem (Str PyData)
section
variable {G : Orc} {fr : Sto} {φ : List FV} {η : Option (Nat × List D)} {a b : C} {ρ : Env} {lv s s1 s2 s3 : Sto} {x y z : D}
theorem slc_hi {cs : List Nat} {n : Int} (h : ev G fr φ η a ρ lv = .ok (.str (Tx cs)) s) (h2 : ev G fr φ η b ρ s = .ok (.int n) s2) (hl : cs.length ≤ lineMax) (h0 : 0 ≤ n) (h1 : n ≤ lineMax) : ev G fr φ η (.slc a none (some b)) ρ lv = .ok (.str (Tx (cs.take n.toNat))) s2 := by
  have : (decide (-(2 ^ 62) < n ∧ n < 2 ^ 62)) = true := decide_eq_true (by unfold lineMax at h1; constructor <;> omega)
  simp only [ev, evo, h, bnd_ok, h2, slcD, okI, this, Bool.and_self, if_true, Tx_len]
  rw [if_pos hl]
  congr 4
  show List.drop 0 (List.take (if n < 0 then (n + (cs.length : Int)).toNat else min n.toNat cs.length) cs) = _
  rw [if_neg (by omega), List.drop_zero, ← List.take_eq_take_min]
theorem slc_lo {cs : List Nat} {n : Int} (h : ev G fr φ η a ρ lv = .ok (.str (Tx cs)) s) (h2 : ev G fr φ η b ρ s = .ok (.int n) s2) (hl : cs.length ≤ lineMax) (h0 : 0 ≤ n) (h1 : n ≤ lineMax + 10) : ev G fr φ η (.slc a (some b) none) ρ lv = .ok (.str (Tx (cs.drop n.toNat))) s2 := by
  have : (decide (-(2 ^ 62) < n ∧ n < 2 ^ 62)) = true := decide_eq_true (by unfold lineMax at h1; constructor <;> omega)
  simp only [ev, evo, h, bnd_ok, h2, slcD, okI, this, Bool.and_self, if_true, Tx_len]
  rw [if_pos hl]
  congr 4
  show List.drop (if n < 0 then (n + (cs.length : Int)).toNat else min n.toNat cs.length) (List.take cs.length cs) = _
  rw [if_neg (by omega), List.take_length]
  by_cases q : n.toNat ≤ cs.length
  · rw [Nat.min_eq_left q]
  · rw [Nat.min_eq_right (by omega), List.drop_eq_nil_of_le (Nat.le_refl _), List.drop_eq_nil_of_le (by omega)]
end
def SIGNS : List Nat := [32, 48, 49, 50, 51, 52, 53, 54, 55, 56, 57, 58, 45, 95, 10, 9, 43, 97]
theorem sign_at (fr lv : Sto) {d : Int} (h0 : 0 ≤ d) (h1 : d < 18) : ∃ c : Nat, idxD fr lv (.str (Tx SIGNS)) (.int d) = some (.str (Tx [c])) := by
  have hl : (Tx SIGNS).length ≤ lineMax := by rw [Tx_len]; decide
  simp only [idxD, hl, if_true, intOf, Option.bind_some]
  unfold atI
  rw [if_pos h0]
  have : d.toNat < SIGNS.length := by show d.toNat < 18; omega
  refine ⟨SIGNS[d.toNat], ?_⟩
  show (SIGNS[d.toNat]?).map _ = _
  rw [List.getElem?_eq_getElem this]
  rfl
/-- a drawn digit -/
theorem ev_draw {dd : Nat} {fr lv : Sto} {k c : Nat} {ρ : Env} {e : C} {many : Int} (hρ : varD ρ 1 = some (.ref (fr.length + k))) (he : ev (Gd (dd + 2)) fr [] none e ρ lv = .ok (.int many) lv) (h : Pen fr lv k c) (hm : 0 < many) (hb : many < 2 ^ 1000) :
    ∃ (d : Int) (lv' : Sto), 0 ≤ d ∧ d < many ∧ ev (Gd (dd + 2)) fr [] none (.call 70 [.var 1, e]) ρ lv = .ok (.int d) lv' ∧ Same k lv lv' ∧ Pen fr lv' k c := by
  obtain ⟨d, lv', a1, a2, e1, S, P⟩ := g_draw dd fr lv k c many h hm hb
  exact ⟨d, lv', a1, a2, (ev_call (evs_cons (ev_var hρ) (evs_cons he evs_nil))).trans e1, S, P⟩
def lBody : List S := match f_71.body.getD 1 .pass with
  | .loop _ _ b => b
  | _ => []
def T60 : Int := 10 ^ 60
def cMany : S := lBody.getD 0 .pass
def cStream : S := lBody.getD 1 .pass
def cAdd : S := lBody.getD 2 .pass
def cRep : S := lBody.getD 3 .pass
abbrev EV (x0 x2 x3 x4 x5 x6 x7 x8 x9 x10 : Option D) (pn : D) : Env := [x0, some pn, x2, x3, x4, x5, x6, x7, x8, x9, x10]
theorem st_many {fr lv : Sto} {k c : Nat} (h : Pen fr lv k c) (x0 x2 x3 x4 x5 x6 x7 x8 x9 x10 : Option D) : ∃ (many : Int) (lv' : Sto), 1 ≤ many ∧ many ≤ 3 ∧ exec (Gd 7) fr [] none cMany (EV x0 x2 x3 x4 x5 x6 x7 x8 x9 x10 (.ref (fr.length + k))) lv = .ok (EV x0 x2 (some (.int many)) x4 x5 x6 x7 x8 x9 x10 (.ref (fr.length + k))) .nx lv' ∧ Pen fr lv' k c := by
  obtain ⟨d, lv', a1, a2, e1, S, P⟩ := ev_draw (dd := 5) (ρ := EV x0 x2 x3 x4 x5 x6 x7 x8 x9 x10 (.ref (fr.length + k))) (e := .con (.int 3)) (many := 3) rfl ev_con h (by decide) (by decide)
  exact ⟨1 + d, lv', by omega, by omega, ex_asg (i := 3) (ev_addI ev_con e1) (by simp), P⟩
theorem st_stream {fr lv : Sto} {k c : Nat} {many : Int} (h : Pen fr lv k c) (hm : 1 ≤ many) (hm3 : many ≤ 3) (x0 x2 x4 x5 x6 x7 x8 x9 x10 : Option D) : ∃ (us : List (Int × Int)) (lv' : Sto), (∀ p ∈ us, Drawn many p) ∧ us.length ≤ 8 ∧ exec (Gd 7) fr [] none cStream (EV x0 x2 (some (.int many)) x4 x5 x6 x7 x8 x9 x10 (.ref (fr.length + k))) lv = .ok (EV x0 x2 (some (.int many)) (some (.tup (us.map pairD))) x5 x6 x7 x8 x9 x10 (.ref (fr.length + k))) .nx lv' ∧ Pen fr lv' k c := by
  obtain ⟨us, lv', a1, a2, e1, P⟩ := g_stream 4 fr lv k c many 8 5 h (by omega) (by omega) (by decide) (by decide) (by decide) (by decide)
  refine ⟨us, lv', a1, by omega, ex_asg (i := 4) ((ev_call (evs_cons (x := .ref (fr.length + k)) (ev_var rfl) (evs_cons (x := .int many) (ev_var rfl) (evs_cons (ev_con (x := .int 8)) (evs_cons (ev_con (x := .int 5)) evs_nil))))).trans e1) (by simp), P⟩
theorem st_add {fr lv : Sto} {k c : Nat} {many : Int} {us : List (Int × Int)} (h : Pen fr lv k c) (hm : 1 ≤ many) (hu : ∀ p ∈ us, Drawn many p) (hn : us.length ≤ 8) (x0 x2 x5 x6 x7 x8 x9 x10 : Option D) : ∃ (us' : List (Int × Int)) (x5' : Option D) (lv' : Sto), (∀ p ∈ us', Drawn many p) ∧ us'.length ≤ 9 ∧ exec (Gd 7) fr [] none cAdd (EV x0 x2 (some (.int many)) (some (.tup (us.map pairD))) x5 x6 x7 x8 x9 x10 (.ref (fr.length + k))) lv = .ok (EV x0 x2 (some (.int many)) (some (.tup (us'.map pairD))) x5' x6 x7 x8 x9 x10 (.ref (fr.length + k))) .nx lv' ∧ Pen fr lv' k c := by
  obtain ⟨ρ, hρ⟩ : ∃ ρ : Env, ρ = EV x0 x2 (some (.int many)) (some (.tup (us.map pairD))) x5 x6 x7 x8 x9 x10 (.ref (fr.length + k)) := ⟨_, rfl⟩
  have v1 : varD ρ 1 = some (.ref (fr.length + k)) := by rw [hρ]; rfl
  have b1000 : (10 : Int) ^ (30 : Int).toNat < 2 ^ 1000 := by decide
  rw [← hρ]
  obtain ⟨d, lv1, a1, a2, e1, S1, P1⟩ := ev_draw (dd := 5) (ρ := ρ) (e := .con (.int 3)) (many := 3) v1 ev_con h (by decide) (by decide)
  have t := ev_cmp (op := .eq) e1 (ev_con (x := .int 0)) (t := decide (d = 0)) rfl
  by_cases q : d = 0
  · rw [decide_eq_true q] at t
    have pw : ∀ s, ev (Gd 7) fr [] none (.bin .pow (.con (.int 10)) (.con (.int 60))) ρ s = .ok (.int (10 ^ (60 : Int).toNat)) s := fun s => ev_powI ev_con ev_con ⟨by decide, by decide, by decide⟩
    have p30 : ∀ s, ev (Gd 7) fr [] none (.bin .pow (.con (.int 10)) (.con (.int 30))) ρ s = .ok (.int (10 ^ (30 : Int).toNat)) s := fun s => ev_powI ev_con ev_con ⟨by decide, by decide, by decide⟩
    have p29 : ∀ s, ev (Gd 7) fr [] none (.bin .mul (.con (.int 5)) (.bin .pow (.con (.int 10)) (.con (.int 29)))) ρ s = .ok (.int (5 * 10 ^ (29 : Int).toNat)) s := fun s => ev_mulI ev_con (ev_powI ev_con ev_con ⟨by decide, by decide, by decide⟩) (by decide)
    obtain ⟨g, lv2, g1, g2, e2, S2, P2⟩ := ev_draw (dd := 5) (ρ := ρ) (e := .bin .pow (.con (.int 10)) (.con (.int 30))) v1 (p30 _) P1 (by decide) b1000
    obtain ⟨vals, hvals⟩ : ∃ vals : List Int, vals = [10 ^ (60 : Int).toNat - 1, 1 - 10 ^ (60 : Int).toNat, g - 5 * 10 ^ (29 : Int).toNat] := ⟨_, rfl⟩
    have ll := ev_lst (G := Gd 7) (fr := fr) (φ := []) (η := none) (ρ := ρ) (lv := lv1) (evs_cons (ev_subI (pw _) (ev_con (x := .int 1))) (evs_cons (ev_subI (ev_con (x := .int 1)) (pw _)) (evs_cons (ev_subI e2 (p29 _)) evs_nil))) (by unfold lineMax; simp)
    have P3 : Pen fr (lv2 ++ [.lst (vals.map .int)]) k c := P2.app _
    obtain ⟨lv3, hlv3⟩ : ∃ lv3 : Sto, lv3 = lv2 ++ [.lst (vals.map .int)] := ⟨_, rfl⟩
    rw [← hlv3] at P3
    have ll : ev (Gd 7) fr [] none (.lst [.bin .sub (.bin .pow (.con (.int 10)) (.con (.int 60))) (.con (.int 1)), .bin .sub (.con (.int 1)) (.bin .pow (.con (.int 10)) (.con (.int 60))), .bin .sub (.call 70 [.var 1, .bin .pow (.con (.int 10)) (.con (.int 30))]) (.bin .mul (.con (.int 5)) (.bin .pow (.con (.int 10)) (.con (.int 29))))]) ρ lv1 = .ok (.ref (fr.length + lv2.length)) lv3 := by
      rw [hlv3, hvals]
      exact ll
    obtain ⟨i, lv4, i1, i2, e4, S4, P4⟩ := ev_draw (dd := 5) (ρ := ρ) (e := .con (.int 3)) (many := 3) v1 ev_con P3 (by decide) (by decide)
    obtain ⟨k2, c2⟩ := P2.lt
    have l3 : lv3[lv2.length]? = some (.lst (vals.map .int)) := by rw [hlv3]; simp
    have l4 : lv4[lv2.length]? = some (.lst (vals.map .int)) := by rw [S4.2 _ (lt_of_get l3) (by omega)]; exact l3
    obtain ⟨v, hv, hb⟩ : ∃ v : Int, atI (vals.map D.int) i = some (.int v) ∧ v.natAbs < 10 ^ 60 := by
      have : i = 0 ∨ i = 1 ∨ i = 2 := by omega
      have e60 : (60 : Int).toNat = 60 := rfl
      have e30 : (30 : Int).toNat = 30 := rfl
      have e29 : (29 : Int).toNat = 29 := rfl
      rw [hvals, e60, e29]
      rcases this with rfl | rfl | rfl
      · exact ⟨10 ^ 60 - 1, rfl, by decide⟩
      · exact ⟨1 - 10 ^ 60, rfl, by decide⟩
      · refine ⟨g - 5 * 10 ^ 29, rfl, ?_⟩
        rw [e30] at g2
        omega
    have dr : Drawn many (0, v) := ⟨Int.le_refl _, by show (0 : Int) < many; omega, hb⟩
    refine ⟨us ++ [(0, v)], some (.int v), lv4, fun p hp => ?_, by simp; omega, ?_, P4⟩
    · rcases List.mem_append.mp hp with hp | hp
      · exact hu p hp
      · rw [List.mem_singleton.mp hp]; exact dr
    · refine (ex_ifT t).trans ((exs_nx (ex_asg (i := 5) (ev_idx (z := .int v) ll e4 ?_) (by rw [hρ]; simp))).trans ?_)
      · rw [idx_list (by rw [look_at]; exact l4)]
        exact hv
      · refine (exs_nx (ex_asg (i := 4) (x := .tup ((us ++ [(0, v)]).map pairD)) (s1 := lv4) ((ev_bin (x := .tup (us.map pairD)) (y := .tup [.tup [.int 0, .int v]]) (s2 := lv4) (ev_var (by rw [hρ]; rfl)) (ev_tup (evs_cons (ev_tup (evs_cons ev_con (evs_cons (ev_var (x := .int v) (by rw [hρ]; rfl)) evs_nil)) (by unfold lineMax; simp)) evs_nil) (by unfold lineMax; simp))).trans ?_) (by rw [hρ]; simp))).trans (exs_nil.trans ?_)
        · show (if (us.map pairD).length + 1 ≤ lineMax then _ else _) = _
          rw [if_pos (by rw [List.length_map]; unfold lineMax; omega), List.map_append]
          rfl
        · rw [hρ]
          rfl
  · rw [decide_eq_false q] at t
    exact ⟨us, x5, lv1, hu, by omega, ((ex_ifF t).trans exs_nil).trans (by rw [hρ]), P1⟩
theorem rep_map (us : List (Int × Int)) (n : Nat) : rep (us.map pairD) n = ((List.replicate n us).flatten).map pairD := by
  unfold rep
  induction n with
  | zero => rfl
  | succ n ih => rw [List.replicate_succ, List.flatten_cons, ih, List.replicate_succ, List.flatten_cons, List.map_append]
theorem mul_tup (fr lv : Sto) (a : List D) (h : a.length ≤ 1000) : bop fr lv .mul (.tup a) (.int 25) = .ok (.tup (rep a 25)) lv := by
  simp only [bop]
  cases a with
  | nil => simp [rep]
  | cons x r => rw [if_neg (by simp), if_pos ⟨by decide, by decide, h⟩]; rfl
theorem rep_len (us : List (Int × Int)) (n : Nat) : ((List.replicate n us).flatten).length = n * us.length := by
  induction n with
  | zero => simp
  | succ n ih => rw [List.replicate_succ, List.flatten_cons, List.length_append, ih, Nat.succ_mul]; omega
theorem st_rep {fr lv : Sto} {k c : Nat} {many : Int} {us : List (Int × Int)} (h : Pen fr lv k c) (hu : ∀ p ∈ us, Drawn many p) (hn : us.length ≤ 9) (x0 x2 x5 x6 x7 x8 x9 x10 : Option D) : ∃ (us' : List (Int × Int)) (lv' : Sto), (∀ p ∈ us', Drawn many p) ∧ us'.length ≤ 225 ∧ exec (Gd 7) fr [] none cRep (EV x0 x2 (some (.int many)) (some (.tup (us.map pairD))) x5 x6 x7 x8 x9 x10 (.ref (fr.length + k))) lv = .ok (EV x0 x2 (some (.int many)) (some (.tup (us'.map pairD))) x5 x6 x7 x8 x9 x10 (.ref (fr.length + k))) .nx lv' ∧ Pen fr lv' k c := by
  obtain ⟨ρ, hρ⟩ : ∃ ρ : Env, ρ = EV x0 x2 (some (.int many)) (some (.tup (us.map pairD))) x5 x6 x7 x8 x9 x10 (.ref (fr.length + k)) := ⟨_, rfl⟩
  have v1 : varD ρ 1 = some (.ref (fr.length + k)) := by rw [hρ]; rfl
  rw [← hρ]
  obtain ⟨d, lv1, a1, a2, e1, S1, P1⟩ := ev_draw (dd := 5) (ρ := ρ) (e := .con (.int 6)) (many := 6) v1 ev_con h (by decide) (by decide)
  have t := ev_cmp (op := .eq) e1 (ev_con (x := .int 0)) (t := decide (d = 0)) rfl
  by_cases q : d = 0
  · rw [decide_eq_true q] at t
    refine ⟨(List.replicate 25 us).flatten, lv1, fun p hp => ?_, ?_, ?_, P1⟩
    · obtain ⟨l, hl, hp⟩ := List.mem_flatten.mp hp
      rw [(List.mem_replicate.mp hl).2] at hp
      exact hu p hp
    · rw [rep_len]
      omega
    · refine (ex_ifT t).trans ((exs_nx (ex_asg (i := 4) (x := .tup (((List.replicate 25 us).flatten).map pairD)) (s1 := lv1) ((ev_bin (x := .tup (us.map pairD)) (y := .int 25) (s2 := lv1) (ev_var (by rw [hρ]; rfl)) ev_con).trans ?_) (by rw [hρ]; simp))).trans (exs_nil.trans (by rw [hρ]; rfl)))
      rw [← rep_map]
      have hl : (us.map pairD).length ≤ 1000 := by rw [List.length_map]; omega
      exact mul_tup fr lv1 _ hl
  · rw [decide_eq_false q] at t
    exact ⟨us, lv1, hu, by omega, ((ex_ifF t).trans exs_nil).trans (by rw [hρ]), P1⟩
end Sv.Lw
end -- Pl28
section -- Pl29
set_option Elab.async false
set_option linter.all false
set_option maxRecDepth 100000
set_option maxHeartbeats 4000000
set_option exponentiation.threshold 3000
namespace Sv.Lw
open PySem (Str PyData)
/-- the rest of a turn, behind the stream -/
def cRest : List S := lBody.drop 4
theorem pd_err (fr lv : Sto) : pd fr lv pdDepth ERR = some (.tuple [.str (Tx [101, 114, 114, 111, 114]), .int 0]) := by
  have e : (Tx [101, 114, 114, 111, 114]).cps.all (fun x => decide (x < 0x110000)) = true := by simp
  show (List.mapM (pd fr lv 23) [D.str (Tx [101, 114, 114, 111, 114]), .int 0]).map PyData.tuple = _
  have e1 : pd fr lv 23 (.str (Tx [101, 114, 114, 111, 114])) = some (.str (Tx [101, 114, 114, 111, 114])) := by
    show (if _ then _ else _) = _
    rw [if_pos e]
  have e2 : pd fr lv 23 (.int 0) = some (.int 0) := rfl
  simp only [List.mapM_cons, List.mapM_nil, e1, e2]
  rfl
theorem ERR_ne (fr lv : Sto) : cop fr lv .ne ERR ERR = some false := by
  have e : eqD fr lv ERR ERR = some true := by
    have : emptyL fr lv ERR = none := rfl
    have f : eqD fr lv ERR ERR = (match emptyL fr lv ERR, emptyL fr lv ERR with
      | some (d, x), some (e, y) => if d == e ∧ (x ∨ y) then some (x && y) else (match pd fr lv pdDepth ERR, pd fr lv pdDepth ERR with
        | some x, some y => some (x.eqv y)
        | _, _ => none)
      | _, _ => match pd fr lv pdDepth ERR, pd fr lv pdDepth ERR with
        | some x, some y => some (x.eqv y)
        | _, _ => none) := rfl
    rw [f, this]
    simp only [pd_err]
    simp [PyData.eqv, PyData.eqvAll]
  simp only [cop, e, Option.map_some]
  rfl
theorem raised_ne (fr lv : Sto) (cs : List Nat) (many : Int) : cop fr lv .ne (raisedD cs many) (if goodT cs many then .str (Tx cs) else ERR) = some false := by
  unfold raisedD
  split
  · exact ne_same _ _ _
  · exact ERR_ne _ _
theorem ev_err {G : Orc} {fr : Sto} {φ : List FV} {η : Option (Nat × List D)} {ρ : Env} {lv : Sto} : ev G fr φ η (.tup [.con (.str (Tx [101, 114, 114, 111, 114])), .con (.int 0)]) ρ lv = .ok ERR lv := ev_tup (evs_cons ev_con (evs_cons ev_con evs_nil)) (by unfold lineMax; simp)
theorem st_rest {fr lv : Sto} {k c : Nat} {many : Int} {us : List (Int × Int)} (h : Pen fr lv k c) (hm : 1 ≤ many) (hm3 : many ≤ 3) (hu : ∀ p ∈ us, Drawn many p) (hn : us.length ≤ 225) (x0 x2 x5 x6 x7 x8 x9 x10 : Option D) :
    ∃ (y6 y7 y8 y9 : Option D) (lv' : Sto), execs (Gd 7) fr [] none cRest (EV x0 x2 (some (.int many)) (some (.tup (us.map pairD))) x5 x6 x7 x8 x9 x10 (.ref (fr.length + k))) lv = .ok (EV x0 x2 (some (.int many)) (some (.tup (us.map pairD))) x5 y6 y7 y8 y9 x10 (.ref (fr.length + k))) .nx lv' ∧ Pen fr lv' k c := by
  have m10 : many ≤ 10 := by omega
  have sm : ∀ p ∈ us, Small p := drawn_small m10 hu
  have bg := drawn_big m10 hu
  have tl := text_len m10 hu hn
  obtain ⟨cs, hcs⟩ : ∃ cs, cs = textL us := ⟨_, rfl⟩
  have cl : cs.length ≤ 14400 := by rw [hcs]; exact tl
  have cm : cs.length ≤ lineMax := by unfold lineMax; omega
  have lm : lineMax = 1000000 := rfl
  obtain ⟨st, hst⟩ : ∃ st, st = D.tup (us.map pairD) := ⟨_, rfl⟩
  obtain ⟨pn, hpn⟩ : ∃ pn : D, pn = .ref (fr.length + k) := ⟨_, rfl⟩
  -- page
  have s4 : exec (Gd 7) fr [] none (.asg (.nm 6) (.call 183 [.var 4])) (EV x0 x2 (some (.int many)) (some st) x5 x6 x7 x8 x9 x10 pn) lv = .ok (EV x0 x2 (some (.int many)) (some st) x5 (some (.str (Tx cs))) x7 x8 x9 x10 pn) .nx lv := by
    refine ex_asg (i := 6) ((ev_call (evs_cons (x := st) (ev_var rfl) evs_nil)).trans ?_) (by simp)
    rw [hst, hcs]
    exact g_text 6 us fr lv sm (by omega)
  obtain ⟨ρ, hρ⟩ : ∃ ρ : Env, ρ = EV x0 x2 (some (.int many)) (some st) x5 (some (.str (Tx cs))) x7 x8 x9 x10 pn := ⟨_, rfl⟩
  have v3 : varD ρ 3 = some (.int many) := by rw [hρ]; rfl
  have v4 : varD ρ 4 = some st := by rw [hρ]; rfl
  have v6 : varD ρ 6 = some (.str (Tx cs)) := by rw [hρ]; rfl
  have v1 : varD ρ 1 = some (.ref (fr.length + k)) := by rw [hρ, hpn]; rfl
  have s5 : exec (Gd 7) fr [] none (.ifs (.cmp .ne (.call 180 [.var 4]) (.var 6)) [.ret (.con (.bl false))] []) ρ lv = .ok ρ .nx lv := by
    refine (ex_ifF (ev_cmp (x := .str (Tx cs)) (y := .str (Tx cs)) (s1 := lv) ((ev_call (evs_cons (ev_var v4) evs_nil)).trans ?_) (ev_var v6) (ne_same _ _ _))).trans exs_nil
    rw [hst, hcs]
    exact g_format 6 fr lv us sm (by omega)
  have s6 : exec (Gd 7) fr [] none (.ifs (.cmp .ne (.bi .repr [.call 182 [.var 6, .var 3]]) (.bi .repr [.var 4])) [.ret (.con (.bl false))] []) ρ lv = .ok ρ .nx lv := by
    refine (ex_ifF (ev_cmp (x := .str (strData us).shown) (y := .str (strData us).shown) (s1 := lv) (s2 := lv) ((ev_bi1 (x := st) (s1 := lv) (by decide) ((ev_call (evs_cons (ev_var v6) (evs_cons (ev_var v3) evs_nil))).trans ?_)).trans ?_) ((ev_bi1 (by decide) (ev_var v4)).trans ?_) (ne_same _ _ _))).trans exs_nil
    · rw [hst, hcs]
      exact (g_parse 4 (textL us) many fr lv (by omega)).trans (parse_back m10 hu lv)
    · rw [hst]; exact repr_stream _ _ _ bg (by omega)
    · rw [hst]; exact repr_stream _ _ _ bg (by omega)
  -- place, sign
  have ln : ev (Gd 7) fr [] none (.bin .add (.bi .len [.var 6]) (.con (.int 1))) ρ lv = .ok (.int ((cs.length : Int) + 1)) lv := by
    refine ev_addI ((ev_len (ev_var v6)).trans ?_) ev_con
    rw [len_str _ _ _ _ (by rw [Tx_len]; exact cm), Tx_len]
  obtain ⟨pl, lv1, p1, p2, e1, S1, P1⟩ := ev_draw (dd := 5) (ρ := ρ) v1 ln h (by omega) (by
    have : (2 : Int) ^ 20 < 2 ^ 1000 := by decide
    omega)
  have s7 : exec (Gd 7) fr [] none (.asg (.nm 7) (.call 70 [.var 1, .bin .add (.bi .len [.var 6]) (.con (.int 1))])) ρ lv = .ok (ρ.set 7 (some (.int pl))) .nx lv1 := ex_asg e1 (by rw [hρ]; simp)
  obtain ⟨ρ2, hρ2⟩ : ∃ ρ2 : Env, ρ2 = ρ.set 7 (some (.int pl)) := ⟨_, rfl⟩
  have w1 : varD ρ2 1 = some (.ref (fr.length + k)) := by rw [hρ2, hρ, hpn]; rfl
  obtain ⟨sg, lv2, q1, q2, e2, S2, P2⟩ := ev_draw (dd := 5) (ρ := ρ2) (e := .con (.int 18)) (many := 18) w1 ev_con P1 (by decide) (by decide)
  obtain ⟨sc, hsc⟩ := sign_at fr lv2 q1 q2
  have s8 : exec (Gd 7) fr [] none (.asg (.nm 8) (.idx (.con (.str (Tx SIGNS))) (.call 70 [.var 1, .con (.int 18)]))) ρ2 lv1 = .ok (ρ2.set 8 (some (.str (Tx [sc])))) .nx lv2 := ex_asg (ev_idx ev_con e2 hsc) (by rw [hρ2, hρ]; simp)
  obtain ⟨ρ3, hρ3⟩ : ∃ ρ3 : Env, ρ3 = ρ2.set 8 (some (.str (Tx [sc]))) := ⟨_, rfl⟩
  have z1 : varD ρ3 1 = some (.ref (fr.length + k)) := by rw [hρ3, hρ2, hρ, hpn]; rfl
  have z6 : varD ρ3 6 = some (.str (Tx cs)) := by rw [hρ3, hρ2, hρ]; rfl
  have z7 : varD ρ3 7 = some (.int pl) := by rw [hρ3, hρ2, hρ]; rfl
  have z8 : varD ρ3 8 = some (.str (Tx [sc])) := by rw [hρ3, hρ2, hρ]; rfl
  -- the changed page
  obtain ⟨d2, lv3, r1, r2, e3, S3, P3⟩ := ev_draw (dd := 5) (ρ := ρ3) (e := .con (.int 2)) (many := 2) z1 ev_con P2 (by decide) (by decide)
  obtain ⟨ds, hds⟩ : ∃ ds : List Nat, ds = cs.take pl.toNat ++ [sc] ++ cs.drop (pl + d2).toNat := ⟨_, rfl⟩
  have dl : ds.length ≤ 30000 := by
    rw [hds]
    simp only [List.length_append, List.length_take, List.length_drop, List.length_cons, List.length_nil]
    omega
  have s9 : exec (Gd 7) fr [] none (.asg (.nm 6) (.bin .add (.bin .add (.slc (.var 6) none (some (.var 7))) (.var 8)) (.slc (.var 6) (some (.bin .add (.var 7) (.call 70 [.var 1, .con (.int 2)]))) none))) ρ3 lv2 = .ok (ρ3.set 6 (some (.str (Tx ds)))) .nx lv3 := by
    rw [hds]
    refine ex_asg ((ev_bin ((ev_bin (slc_hi (ev_var z6) (ev_var z7) cm p1 (by omega)) (ev_var z8)).trans (add_str _ _ _ _ ?_)) (slc_lo (ev_var z6) (ev_addI (ev_var z7) e3) cm (by omega) (by omega))).trans (add_str _ _ _ _ ?_)) (by rw [hρ3, hρ2, hρ]; simp)
    · simp only [List.length_take, List.length_cons, List.length_nil]; omega
    · simp only [List.length_append, List.length_take, List.length_drop, List.length_cons, List.length_nil]; omega
  obtain ⟨ρ4, hρ4⟩ : ∃ ρ4 : Env, ρ4 = ρ3.set 6 (some (.str (Tx ds))) := ⟨_, rfl⟩
  have u3 : varD ρ4 3 = some (.int many) := by rw [hρ4, hρ3, hρ2, hρ]; rfl
  have u6 : varD ρ4 6 = some (.str (Tx ds)) := by rw [hρ4, hρ3, hρ2, hρ]; rfl
  obtain ⟨due, hdue⟩ : ∃ due : D, due = if goodT ds many then .str (Tx ds) else ERR := ⟨_, rfl⟩
  have gd : ev (Gd 7) fr [] none (.call 185 [.var 6, .var 3]) ρ4 lv3 = .ok (.bl (goodT ds many)) lv3 := (ev_call (evs_cons (ev_var u6) (evs_cons (ev_var u3) evs_nil))).trans (g_good 5 fr lv3 ds many dl)
  have s10 : exec (Gd 7) fr [] none (.asg (.nm 9) (.ifx (.call 185 [.var 6, .var 3]) (.var 6) (.tup [.con (.str (Tx [101, 114, 114, 111, 114])), .con (.int 0)]))) ρ4 lv3 = .ok (ρ4.set 9 (some due)) .nx lv3 := by
    refine ex_asg ?_ (by rw [hρ4, hρ3, hρ2, hρ]; simp)
    rw [hdue]
    cases q : goodT ds many with
    | true => rw [q] at gd; exact (ev_ifT gd).trans (ev_var u6)
    | false => rw [q] at gd; exact (ev_ifF gd).trans ev_err
  obtain ⟨ρ5, hρ5⟩ : ∃ ρ5 : Env, ρ5 = ρ4.set 9 (some due) := ⟨_, rfl⟩
  have t3 : varD ρ5 3 = some (.int many) := by rw [hρ5, hρ4, hρ3, hρ2, hρ]; rfl
  have t6 : varD ρ5 6 = some (.str (Tx ds)) := by rw [hρ5, hρ4, hρ3, hρ2, hρ]; rfl
  have t9 : varD ρ5 9 = some due := by rw [hρ5, hρ4, hρ3, hρ2, hρ]; rfl
  have parts : (splitL 32 ds).length ≤ 900 := by
    rw [split_count, hds, hcs]
    have a := cut_count 32 sc (textL us) pl.toNat (pl + d2).toNat (by omega)
    have b := text_parts (us := us) (by omega)
    omega
  have s11 : exec (Gd 7) fr [] none (.ifs (.cmp .ne (.call 177 [.var 6, .var 3]) (.var 9)) [.ret (.con (.bl false))] []) ρ5 lv3 = .ok ρ5 .nx lv3 := by
    refine (ex_ifF (ev_cmp (x := raisedD ds many) (y := due) (s1 := lv3) ((ev_call (evs_cons (ev_var t6) (evs_cons (ev_var t3) evs_nil))).trans (g_raised 3 fr lv3 ds many m10 dl parts)) (ev_var t9) ?_)).trans exs_nil
    rw [hdue]
    exact raised_ne _ _ _ _
  refine ⟨some (.str (Tx ds)), some (.int pl), some (.str (Tx [sc])), some due, lv3, ?_, P3⟩
  have e5 : ρ5 = EV x0 x2 (some (.int many)) (some st) x5 (some (.str (Tx ds))) (some (.int pl)) (some (.str (Tx [sc]))) (some due) x10 pn := by rw [hρ5, hρ4, hρ3, hρ2, hρ]; rfl
  rw [← hst, ← hpn, ← e5]
  rw [← hρ] at s4
  rw [← hρ2] at s7
  rw [← hρ3] at s8
  rw [← hρ4] at s9
  rw [← hρ5] at s10
  exact (exs_nx s4).trans ((exs_nx s5).trans ((exs_nx s6).trans ((exs_nx s7).trans ((exs_nx s8).trans ((exs_nx s9).trans ((exs_nx s10).trans ((exs_nx s11).trans exs_nil)))))))
theorem turn {fr lv : Sto} {k c : Nat} (h : Pen fr lv k c) (x0 x2 x3 x4 x5 x6 x7 x8 x9 x10 : Option D) :
    ∃ (y3 y4 y5 y6 y7 y8 y9 : Option D) (lv' : Sto), execs (Gd 7) fr [] none lBody (EV x0 x2 x3 x4 x5 x6 x7 x8 x9 x10 (.ref (fr.length + k))) lv = .ok (EV x0 x2 y3 y4 y5 y6 y7 y8 y9 x10 (.ref (fr.length + k))) .nx lv' ∧ Pen fr lv' k c := by
  obtain ⟨many, lv1, m1, m3, e1, P1⟩ := st_many h x0 x2 x3 x4 x5 x6 x7 x8 x9 x10
  obtain ⟨us, lv2, u1, u2, e2, P2⟩ := st_stream P1 m1 m3 x0 x2 x4 x5 x6 x7 x8 x9 x10
  obtain ⟨vs, y5, lv3, v1, v2, e3, P3⟩ := st_add P2 m1 u1 u2 x0 x2 x5 x6 x7 x8 x9 x10
  obtain ⟨ws, lv4, w1, w2, e4, P4⟩ := st_rep P3 v1 v2 x0 x2 y5 x6 x7 x8 x9 x10
  obtain ⟨y6, y7, y8, y9, lv5, e5, P5⟩ := st_rest P4 m1 m3 w1 w2 x0 x2 y5 x6 x7 x8 x9 x10
  have e : lBody = cMany :: cStream :: cAdd :: cRep :: cRest := rfl
  rw [e]
  exact ⟨_, _, _, _, _, _, _, lv5, (exs_nx e1).trans ((exs_nx e2).trans ((exs_nx e3).trans ((exs_nx e4).trans e5))), P5⟩
end Sv.Lw
end -- Pl29
section -- Pl30
set_option Elab.async false
set_option linter.all false
set_option maxRecDepth 100000
set_option maxHeartbeats 4000000
set_option exponentiation.threshold 3000
namespace Sv.Lw
open PySem (Str PyData)
theorem turns {fr : Sto} {k c : Nat} (x0 x10 : Option D) : ∀ (ts : List D) (x2 x3 x4 x5 x6 x7 x8 x9 : Option D) (lv : Sto), Pen fr lv k c →
    ∃ (y2 y3 y4 y5 y6 y7 y8 y9 : Option D) (lv' : Sto), loopE (fun d ρ s => match asgN ρ (.nm 2) d with
      | some ρ1 => execs (Gd 7) fr [] none lBody ρ1 s
      | none => .bad) (fun s => stays fr s .none) ts (EV x0 x2 x3 x4 x5 x6 x7 x8 x9 x10 (.ref (fr.length + k))) lv = .ok (EV x0 y2 y3 y4 y5 y6 y7 y8 y9 x10 (.ref (fr.length + k))) .nx lv' ∧ Pen fr lv' k c
  | [], x2, x3, x4, x5, x6, x7, x8, x9, lv, h => ⟨x2, x3, x4, x5, x6, x7, x8, x9, lv, by simp [loopE], h⟩
  | t :: ts, x2, x3, x4, x5, x6, x7, x8, x9, lv, h => by
    obtain ⟨y3, y4, y5, y6, y7, y8, y9, lv1, e1, P1⟩ := turn h x0 (some t) x3 x4 x5 x6 x7 x8 x9 x10
    obtain ⟨z2, z3, z4, z5, z6, z7, z8, z9, lv2, e2, P2⟩ := turns x0 x10 ts (some t) y3 y4 y5 y6 y7 y8 y9 lv1 P1
    refine ⟨z2, z3, z4, z5, z6, z7, z8, z9, lv2, ?_, P2⟩
    have a : asgN (EV x0 x2 x3 x4 x5 x6 x7 x8 x9 x10 (.ref (fr.length + k))) (.nm 2) t = some (EV x0 (some t) x3 x4 x5 x6 x7 x8 x9 x10 (.ref (fr.length + k))) := rfl
    have st : ∀ s, stays fr s .none = true := fun s => rfl
    simp only [loopE, a, e1, st, if_true]
    exact e2
/-- odd texts: each raises -/
def oBody (many : Int) : List S := [.ifs (.cmp .ne (.call 177 [.var 6, .con (.int many)]) (.tup [.con (.str (Tx [101, 114, 114, 111, 114])), .con (.int 0)])) [.ret (.con (.bl false))] []]
def Odd (many : Int) (cs : List Nat) : Prop := goodT cs many = false ∧ cs.length ≤ 30000 ∧ (splitL 32 cs).length ≤ 900
theorem odd_turn {fr lv : Sto} {many : Int} (hm : many ≤ 10) {cs : List Nat} (h : Odd many cs) {ρ : Env} (v6 : varD ρ 6 = some (.str (Tx cs))) : execs (Gd 7) fr [] none (oBody many) ρ lv = .ok ρ .nx lv := by
  obtain ⟨a, b, c⟩ := h
  have e := g_raised 3 fr lv cs many hm b c
  have : raisedD cs many = ERR := by unfold raisedD; rw [a]; rfl
  rw [this] at e
  exact (exs_nx ((ex_ifF (ev_cmp ((ev_call (evs_cons (ev_var v6) (evs_cons ev_con evs_nil))).trans e) ev_err (ERR_ne _ _))).trans exs_nil)).trans exs_nil
theorem odd_loop {fr : Sto} {many : Int} (hm : many ≤ 10) {l : Nat} {all : List D} {lv : Sto} (hl : look fr lv l = some (.lst all)) (ρ0 ρ9 : List (Option D)) (h6 : ρ0.length = 6) : ∀ (ws : List (List Nat)) (x6 : Option D), (∀ w ∈ ws, Odd many w) →
    ∃ y6 : Option D, loopE (fun d ρ s => match asgN ρ (.nm 6) d with
      | some ρ1 => execs (Gd 7) fr [] none (oBody many) ρ1 s
      | none => .bad) (fun s => stays fr s (.lists [(l, all)])) (ws.map fun w => .str (Tx w)) (ρ0 ++ x6 :: ρ9) lv = .ok (ρ0 ++ y6 :: ρ9) .nx lv
  | [], x6, _ => ⟨x6, by simp [loopE]⟩
  | w :: ws, x6, h => by
    obtain ⟨y6, e⟩ := odd_loop hm hl ρ0 ρ9 h6 ws (some (.str (Tx w))) fun v hv => h v (List.mem_cons_of_mem _ hv)
    refine ⟨y6, ?_⟩
    have a : asgN (ρ0 ++ x6 :: ρ9) (.nm 6) (.str (Tx w)) = some (ρ0 ++ some (.str (Tx w)) :: ρ9) := by
      simp only [asgN]
      rw [if_pos (by simp; omega)]
      congr 1
      rw [List.set_append_right _ _ (by omega), h6]
      rfl
    have v6 : varD (ρ0 ++ some (.str (Tx w)) :: ρ9) 6 = some (.str (Tx w)) := by
      unfold varD
      rw [List.getElem?_append_right (by omega), h6]
      rfl
    have st : stays fr lv (.lists [(l, all)]) = true := by
      simp [stays, hl]
    simp only [List.map_cons, loopE, a, odd_turn hm (h w (by simp)) v6, st, if_true]
    exact e
end Sv.Lw
end -- Pl30
section -- Pl31
set_option Elab.async false
set_option linter.all false
set_option maxRecDepth 100000
set_option maxHeartbeats 4000000
set_option exponentiation.threshold 3000
namespace Sv.Lw
open PySem (Str PyData)
def odd1 : List (List Nat) := [[], [32], [45, 45], [48, 58], [58, 48], [48, 58, 45, 48], [48, 58, 48, 49], [48, 58, 49, 32], [32, 48, 58, 49], [48, 58, 49, 32, 32, 48, 58, 49]]
def odd2 : List (List Nat) := [[48, 58] ++ List.replicate 61 57, [49, 58, 48]]
def odd3 : List (List Nat) := [[48, 58] ++ List.replicate 4400 55, List.replicate 4400 55 ++ [58, 48], [48, 58, 45] ++ List.replicate 4400 55, [48, 58, 49, 95, 48], [48, 58, 49, 10], [48, 58, 49, 58, 49], [51, 58, 48]]
def oddB (many : Int) (w : List Nat) : Bool := !goodT w many && decide (w.length ≤ 30000) && decide ((splitL 32 w).length ≤ 900)
theorem odd_of {many : Int} {ws : List (List Nat)} (h : ws.all (oddB many) = true) : ∀ w ∈ ws, Odd many w := fun w hw => by
  have := List.all_eq_true.mp h w hw
  unfold oddB at this
  simp only [Bool.and_eq_true, Bool.not_eq_true', decide_eq_true_eq] at this
  exact ⟨this.1.1, this.1.2, this.2⟩
theorem odds1 : ∀ w ∈ odd1 ++ odd2, Odd 1 w := odd_of (by decide +kernel)
theorem odds3 : ∀ w ∈ odd3, Odd 3 w := odd_of (by decide +kernel)
def last1 : List Nat := [48, 58] ++ List.replicate 60 57
theorem last_good : goodT last1 1 = true := by decide +kernel
theorem flat1 (c n : Nat) : (List.replicate n [c]).flatten = List.replicate n c := by
  induction n with
  | zero => rfl
  | succ n ih => rw [List.replicate_succ, List.flatten_cons, ih]; rfl
theorem ev_mulS {G : Orc} {fr : Sto} {φ : List FV} {η : Option (Nat × List D)} {ρ : Env} {lv : Sto} (c n : Nat) (h : n ≤ 100000) : ev G fr φ η (.bin .mul (.con (.str (Tx [c]))) (.con (.int n))) ρ lv = .ok (.str (Tx (List.replicate n c))) lv := by
  refine (ev_bin ev_con ev_con).trans ?_
  show (if 0 ≤ (n : Int) ∧ (n : Int) * (Tx [c]).length ≤ lineMax ∧ (n : Int) ≤ lineMax then R.ok (D.str ⟨((List.replicate (n : Int).toNat (Tx [c]).cps.toList).flatten).toArray⟩) lv else R.bad) = _
  rw [Tx_len, if_pos (by unfold lineMax; simp; omega)]
  show R.ok (D.str (Tx ((List.replicate n [c]).flatten))) lv = _
  rw [flat1]
theorem ev_cat {G : Orc} {fr : Sto} {φ : List FV} {η : Option (Nat × List D)} {ρ : Env} {lv : Sto} {a b : C} {x y : List Nat} (ha : ev G fr φ η a ρ lv = .ok (.str (Tx x)) lv) (hb : ev G fr φ η b ρ lv = .ok (.str (Tx y)) lv) (h : x.length + y.length ≤ lineMax) : ev G fr φ η (.bin .add a b) ρ lv = .ok (.str (Tx (x ++ y))) lv := (ev_bin ha hb).trans (add_str _ _ _ _ h)
def tail1 : List S := f_71.body.drop 2
theorem law_tail {fr lv : Sto} (ρ0 : List (Option D)) (h6 : ρ0.length = 6) (x6 x7 x8 x9 x10 : Option D) : ∃ (ρ' : Env) (lv' : Sto), execs (Gd 7) fr [] none tail1 (ρ0 ++ [x6, x7, x8, x9, x10]) lv = .ok ρ' (.rt (.bl true)) lv' := by
  have lm : lineMax = 1000000 := rfl
  have set10 : ∀ (y6 : Option D) (x10 d : Option D), (ρ0 ++ [y6, x7, x8, x9, x10]).set 10 d = ρ0 ++ [y6, x7, x8, x9, d] := fun y6 x10 d => by
    rw [List.set_append_right _ _ (by omega), h6]; rfl
  have v10 : ∀ (y6 : Option D) (d : D), varD (ρ0 ++ [y6, x7, x8, x9, some d]) 10 = some d := fun y6 d => by
    unfold varD
    rw [List.getElem?_append_right (by omega), h6]
    rfl
  have len : ∀ (y6 x10 : Option D), 10 < (ρ0 ++ [y6, x7, x8, x9, x10]).length := fun y6 x10 => by simp; omega
  have asg10 : ∀ {e : C} {y6 x10 : Option D} {d : D} {s s1 : Sto}, ev (Gd 7) fr [] none e (ρ0 ++ [y6, x7, x8, x9, x10]) s = .ok d s1 → exec (Gd 7) fr [] none (.asg (.nm 10) e) (ρ0 ++ [y6, x7, x8, x9, x10]) s = .ok (ρ0 ++ [y6, x7, x8, x9, some d]) .nx s1 := fun {e y6 x10 d s s1} h => by
    rw [ex_asg (i := 10) h (len _ _), set10]
  -- the first list
  obtain ⟨lv1, hlv1⟩ : ∃ lv1 : Sto, lv1 = lv ++ [.lst (odd1.map fun w => .str (Tx w))] := ⟨_, rfl⟩
  obtain ⟨ρ1, hρ1⟩ : ∃ ρ1 : Env, ρ1 = ρ0 ++ [x6, x7, x8, x9, some (.ref (fr.length + lv.length))] := ⟨_, rfl⟩
  have s1 : exec (Gd 7) fr [] none (tail1.getD 0 .pass) (ρ0 ++ [x6, x7, x8, x9, x10]) lv = .ok ρ1 .nx lv1 := by
    rw [hρ1, hlv1]
    exact asg10 (ev_lst (xs := odd1.map fun w => .str (Tx w)) (evs_cons ev_con (evs_cons ev_con (evs_cons ev_con (evs_cons ev_con (evs_cons ev_con (evs_cons ev_con (evs_cons ev_con (evs_cons ev_con (evs_cons ev_con (evs_cons ev_con evs_nil)))))))))) (by rw [lm]; simp [odd1]))
  have l1 : look fr lv1 (fr.length + lv.length) = some (.lst (odd1.map fun w => .str (Tx w))) := by rw [hlv1]; exact look_new _ _ _
  -- the second
  obtain ⟨lv2, hlv2⟩ : ∃ lv2 : Sto, lv2 = lv1 ++ [.lst (odd2.map fun w => .str (Tx w))] := ⟨_, rfl⟩
  obtain ⟨lv3, hlv3⟩ : ∃ lv3 : Sto, lv3 = lv2 ++ [.lst ((odd1 ++ odd2).map fun w => .str (Tx w))] := ⟨_, rfl⟩
  have n1 : lv.length < lv1.length := by rw [hlv1]; simp
  have l2a : look fr lv2 (fr.length + lv.length) = some (.lst (odd1.map fun w => .str (Tx w))) := by
    rw [look_at] at l1 ⊢
    rw [hlv2, List.getElem?_append_left n1]
    exact l1
  have l2b : look fr lv2 (fr.length + lv1.length) = some (.lst (odd2.map fun w => .str (Tx w))) := by rw [hlv2]; exact look_new _ _ _
  obtain ⟨ρ2, hρ2⟩ : ∃ ρ2 : Env, ρ2 = ρ0 ++ [x6, x7, x8, x9, some (.ref (fr.length + lv2.length))] := ⟨_, rfl⟩
  have s2 : exec (Gd 7) fr [] none (tail1.getD 1 .pass) ρ1 lv1 = .ok ρ2 .nx lv3 := by
    rw [hρ2, hρ1]
    refine asg10 ((ev_bin (x := .ref (fr.length + lv.length)) (y := .ref (fr.length + lv1.length)) (s1 := lv1) (s2 := lv2) (ev_var (v10 _ _)) ?_).trans ?_)
    · have := ev_lst (G := Gd 7) (fr := fr) (φ := []) (η := none) (ρ := ρ0 ++ [x6, x7, x8, x9, some (.ref (fr.length + lv.length))]) (lv := lv1) (evs_cons (ev_cat (ev_con (x := .str (Tx [48, 58]))) (ev_mulS 57 61 (by decide)) (by rw [lm, List.length_replicate]; decide)) (evs_cons (ev_con (x := .str (Tx [49, 58, 48]))) evs_nil)) (by rw [lm]; simp)
      rw [hlv2]
      exact this
    · have a : liveL fr lv2 (.ref (fr.length + lv.length)) = some (odd1.map fun w => .str (Tx w)) := by
        simp only [liveL, listAt, l2a]
        rw [if_pos (by omega)]
      have b : liveL fr lv2 (.ref (fr.length + lv1.length)) = some (odd2.map fun w => .str (Tx w)) := by
        simp only [liveL, listAt, l2b]
        rw [if_pos (by omega)]
      simp only [bop, a, b]
      rw [if_pos (by rw [lm]; simp [odd1, odd2]), hlv3, List.map_append]
      rfl
  have l3 : look fr lv3 (fr.length + lv2.length) = some (.lst ((odd1 ++ odd2).map fun w => .str (Tx w))) := by rw [hlv3]; exact look_new _ _ _
  obtain ⟨y6, e3⟩ := odd_loop (many := 1) (by decide) l3 ρ0 [x7, x8, x9, some (.ref (fr.length + lv2.length))] h6 (odd1 ++ odd2) x6 odds1
  obtain ⟨ρ3, hρ3⟩ : ∃ ρ3 : Env, ρ3 = ρ0 ++ [y6, x7, x8, x9, some (.ref (fr.length + lv2.length))] := ⟨_, rfl⟩
  have lp : ∀ (many : Int) (l : Nat) (all : List D) (ρ ρ' : Env) (s : Sto), look fr s l = some (.lst all) → varD ρ 10 = some (.ref l) → loopE (fun d ρ s => match asgN ρ (.nm 6) d with
      | some ρ1 => execs (Gd 7) fr [] none (oBody many) ρ1 s
      | none => .bad) (fun s => stays fr s (.lists [(l, all)])) all ρ s = .ok ρ' .nx s → exec (Gd 7) fr [] none (.loop (.nm 6) (.val (.var 10)) (oBody many)) ρ s = .ok ρ' .nx s := fun many l all ρ ρ' s hl hv he => by
    have st : stays fr s (.lists [(l, all)]) = true := by simp [stays, hl]
    have it : evI (Gd 7) fr [] none (.val (.var 10)) ρ s = .ok (all, .lists [(l, all)]) s := by
      simp only [evI, ev, hv, of_ok, bnd_ok, valI, itemsOf, listAt, hl, listWt]
    simp only [exec, it, rs_ok, st, Bool.not_true, Bool.false_eq_true, if_false, lockS]
    refine (congrArg (RS.mapS _ _) he).trans ?_
    simp only [RS.mapS, unlockS]
  have s3 : exec (Gd 7) fr [] none (tail1.getD 2 .pass) ρ2 lv3 = .ok ρ3 .nx lv3 := by
    rw [hρ2, hρ3]
    exact lp 1 _ _ _ _ _ l3 (v10 _ _) e3
  -- the third
  obtain ⟨lv4, hlv4⟩ : ∃ lv4 : Sto, lv4 = lv3 ++ [.lst (odd3.map fun w => .str (Tx w))] := ⟨_, rfl⟩
  obtain ⟨ρ4, hρ4⟩ : ∃ ρ4 : Env, ρ4 = ρ0 ++ [y6, x7, x8, x9, some (.ref (fr.length + lv3.length))] := ⟨_, rfl⟩
  have s4 : exec (Gd 7) fr [] none (tail1.getD 3 .pass) ρ3 lv3 = .ok ρ4 .nx lv4 := by
    rw [hρ4, hρ3, hlv4]
    exact asg10 (ev_lst (xs := odd3.map fun w => .str (Tx w)) (evs_cons (ev_cat (ev_con (x := .str (Tx [48, 58]))) (ev_mulS 55 4400 (by decide)) (by rw [lm, List.length_replicate]; decide)) (evs_cons (ev_cat (ev_mulS 55 4400 (by decide)) (ev_con (x := .str (Tx [58, 48]))) (by rw [lm, List.length_replicate]; decide)) (evs_cons (ev_cat (ev_con (x := .str (Tx [48, 58, 45]))) (ev_mulS 55 4400 (by decide)) (by rw [lm, List.length_replicate]; decide)) (evs_cons ev_con (evs_cons ev_con (evs_cons ev_con (evs_cons ev_con evs_nil))))))) (by rw [lm]; simp [odd3]))
  have l4 : look fr lv4 (fr.length + lv3.length) = some (.lst (odd3.map fun w => .str (Tx w))) := by rw [hlv4]; exact look_new _ _ _
  obtain ⟨z6, e5⟩ := odd_loop (many := 3) (by decide) l4 ρ0 [x7, x8, x9, some (.ref (fr.length + lv3.length))] h6 odd3 y6 odds3
  obtain ⟨ρ5, hρ5⟩ : ∃ ρ5 : Env, ρ5 = ρ0 ++ [z6, x7, x8, x9, some (.ref (fr.length + lv3.length))] := ⟨_, rfl⟩
  have s5 : exec (Gd 7) fr [] none (tail1.getD 4 .pass) ρ4 lv4 = .ok ρ5 .nx lv4 := by
    rw [hρ4, hρ5]
    exact lp 3 _ _ _ _ _ l4 (v10 _ _) e5
  -- the end
  have c1 : ∀ s, ev (Gd 7) fr [] none (.bin .add (.con (.str (Tx [48, 58]))) (.bin .mul (.con (.str (Tx [57]))) (.con (.int 60)))) ρ5 s = .ok (.str (Tx last1)) s := fun s => ev_cat ev_con (ev_mulS 57 60 (by decide)) (by rw [lm, List.length_replicate]; decide)
  have g := g_raised 3 fr lv4 last1 1 (by decide) (by unfold last1; rw [List.length_append, List.length_replicate]; decide) (by decide +kernel)
  have e : raisedD last1 1 = .str (Tx last1) := by unfold raisedD; rw [last_good]; rfl
  rw [e] at g
  have s6 : exec (Gd 7) fr [] none (tail1.getD 5 .pass) ρ5 lv4 = .ok ρ5 (.rt (.bl true)) lv4 := by
    refine ex_ret (ev_cmp (x := .str (Tx last1)) (y := .str (Tx last1)) ((ev_call (evs_cons (c1 _) (evs_cons (ev_con (x := .int 1)) evs_nil))).trans g) (c1 _) ?_)
    rw [eq_str, decide_eq_true rfl]
  refine ⟨ρ5, lv4, ?_⟩
  have el : tail1 = [tail1.getD 0 .pass, tail1.getD 1 .pass, tail1.getD 2 .pass, tail1.getD 3 .pass, tail1.getD 4 .pass, tail1.getD 5 .pass] := rfl
  rw [el]
  exact (exs_nx s1).trans ((exs_nx s2).trans ((exs_nx s3).trans ((exs_nx s4).trans ((exs_nx s5).trans (exs_rt s6)))))
theorem law_k77 (ns : List Int) (hn : ns.length ≤ 63) : ∃ t, (Sv.run F [7] (fun _ => ⟨#[]⟩) 100 8).call 71 [.ref 0] [] [.lst (ns.map .int)] [] = .ok (.bl true) t := by
  obtain ⟨fr, hfr⟩ : ∃ fr : Sto, fr = [.lst (ns.map .int)] := ⟨_, rfl⟩
  have l0 : look fr [] 0 = some (.lst (ns.map .int)) := by rw [hfr]; rfl
  obtain ⟨lv1, e1, P1⟩ := g_pen 6 fr [] ns 0 l0 hn
  rw [← hfr]
  have s1 : exec (Gd 7) fr [] none (f_71.body.getD 0 .pass) (EV (some (.ref 0)) none none none none none none none none none .non |>.set 1 none) [] = .ok (EV (some (.ref 0)) none none none none none none none none none (.ref (fr.length + 2))) .nx lv1 := by
    refine ex_asg (i := 1) (x := .ref (fr.length + (0 + 2))) ((ev_call (evs_cons (x := .ref 0) (ev_var rfl) evs_nil)).trans e1) (by simp)
  have rg : rngD 0 8 = some (rngL 0 8) := by
    unfold rngD
    rw [if_pos ⟨by decide, by decide, by decide, by decide, by decide⟩]
    rfl
  obtain ⟨y2, y3, y4, y5, y6, y7, y8, y9, lv2, e2, P2⟩ := turns (fr := fr) (some (.ref 0)) none (rngL 0 8) none none none none none none none none lv1 P1
  have s2 : exec (Gd 7) fr [] none (f_71.body.getD 1 .pass) (EV (some (.ref 0)) none none none none none none none none none (.ref (fr.length + 2))) lv1 = .ok (EV (some (.ref 0)) y2 y3 y4 y5 y6 y7 y8 y9 none (.ref (fr.length + 2))) .nx lv2 := by
    have q : f_71.body.getD 1 .pass = .loop (.nm 2) (.rng1 (.con (.int 8))) lBody := rfl
    have it : evI (Gd 7) fr [] none (.rng1 (.con (.int 8))) (EV (some (.ref 0)) none none none none none none none none none (.ref (fr.length + 2))) lv1 = .ok (rngL 0 8, .none) lv1 := by
      simp only [evI, ev, bnd_ok, rngI, rg]
    rw [q]
    simp only [exec, it, rs_ok, stays, Bool.not_true, Bool.false_eq_true, if_false, lockS]
    refine (congrArg (RS.mapS _ _) e2).trans ?_
    simp only [RS.mapS, unlockS]
    rfl
  obtain ⟨ρ', lv3, e3⟩ := law_tail (fr := fr) (lv := lv2) [some (.ref 0), some (.ref (fr.length + 2)), y2, y3, y4, y5] rfl y6 y7 y8 y9 none
  refine ⟨lv3, ?_⟩
  have e0 : (Sv.run F [7] (fun _ => ⟨#[]⟩) 100 8).call 71 [.ref 0] [] fr [] = endR (execs (Gd 7) fr [] none f_71.body (EV (some (.ref 0)) none none none none none none none none none .non |>.set 1 none) []) := rfl
  rw [e0]
  have el : f_71.body = f_71.body.getD 0 .pass :: f_71.body.getD 1 .pass :: tail1 := rfl
  rw [el, (exs_nx s1).trans ((exs_nx s2).trans e3)]
  rfl
end Sv.Lw
end -- Pl31
section -- Sem19
set_option Elab.async false
set_option linter.all false
set_option maxRecDepth 100000
set_option maxHeartbeats 2000000
/-! # List comprehensions -/
namespace Sv
open PySem PySem.Spec PyProof.Rows L2

section
variable {X : Cx} {F : Fm} {G : Orc} {σ : L2.St} {H H' : Hp} {μ μ' : Nat → Addr} {ρ : Sv.Env} {φ : List FV} {η : Option (Nat × List Sv.D)} {fr lv lv' : Sto}
/-! ### slots wiped -/
theorem wipe_get {own : List Nat} {σ : L2.St} {i : Nat} (h : i ∉ own) : (L2.wipe σ own)[i]? = σ[i]? := by
  induction own with
  | nil => rfl
  | cons v vs ih =>
    simp only [List.mem_cons, not_or] at h
    show ((L2.wipe σ vs).set v none)[i]? = _
    rw [List.getElem?_set_ne (fun z => h.1 z.symm)]
    exact ih h.2
theorem wipeE_get {own : List Nat} {ρ : Sv.Env} {i : Nat} {d : Sv.D} (h : (Sv.wipe own ρ)[i]? = some (some d)) : i ∉ own ∧ ρ[i]? = some (some d) := by
  induction own with
  | nil => exact ⟨by simp, h⟩
  | cons v vs ih =>
    have h : ((Sv.wipe vs ρ).set v none)[i]? = some (some d) := h
    by_cases c : v = i
    · subst c
      by_cases hl : v < (Sv.wipe vs ρ).length
      · rw [List.getElem?_set_self hl] at h; cases h
      · rw [List.getElem?_eq_none (by simpa using hl)] at h; cases h
    · rw [List.getElem?_set_ne c] at h
      obtain ⟨h1, h2⟩ := ih h
      exact ⟨by simp only [List.mem_cons, not_or]; exact ⟨fun z => c z.symm, h1⟩, h2⟩
theorem wipeE_len {own : List Nat} {ρ : Sv.Env} : (Sv.wipe own ρ).length = ρ.length := by
  induction own with
  | nil => rfl
  | cons v vs ih => show ((Sv.wipe vs ρ).set v none).length = _; rw [List.length_set, ih]
theorem wipe_ext {own : List Nat} {σ σ' : L2.St} (hl : σ'.length = σ.length) (h : ∀ i, i ∉ own → σ'[i]? = σ[i]?) : L2.wipe σ' own = L2.wipe σ own := by
  have key : ∀ (own : List Nat) (i : Nat), i ∈ own → ∀ σ : L2.St, (L2.wipe σ own)[i]? = if i < σ.length then some none else none := by
    intro own
    induction own with
    | nil => intro i h; cases h
    | cons v vs ih =>
      intro i h σ
      show ((L2.wipe σ vs).set v none)[i]? = _
      by_cases c : v = i
      · subst c
        rw [List.getElem?_set, L2.wipe_length, if_pos rfl]
      · rw [List.getElem?_set_ne c]
        exact ih i ((List.mem_cons.mp h).resolve_left fun z => c z.symm) σ
  apply List.ext_getElem?
  intro i
  by_cases c : i ∈ own
  · rw [key own i c σ', key own i c σ, hl]
  · rw [wipe_get c, wipe_get c, h i c]
theorem wipe_set {own : List Nat} {σ : L2.St} {i : Nat} {x : Option V} (h : i ∈ own) : L2.wipe (σ.set i x) own = L2.wipe σ own := wipe_ext (by simp) fun j hj => List.getElem?_set_ne fun z => hj (by rw [← z]; exact h)
theorem wipe_wipe {own : List Nat} {σ : L2.St} : L2.wipe (L2.wipe σ own) own = L2.wipe σ own := wipe_ext (L2.wipe_length _ _) fun i hi => wipe_get hi
/-- the frame within a comprehension -/
def Fm.blk (F : Fm) : Fm := { F with W := fun _ _ _ _ => False, nf := 0, clo := fun _ _ _ => False, xs := none }
theorem fits_blk (ft : Fits X F) (s : Shared) (H : Hp) (scope : Scope) (env : PySem.Env) (fp : List Addr) : Fits (X.blk s H scope env fp) F.blk :=
  ⟨ft.K, ft.w, ft.nd, trivial, fun _ _ _ _ _ _ h => False.elim h, ft.un, ft.gd, fun u s' ⟨_, _, _, _, _, _, _, _, _, _, _, _, _, _, _, _, w⟩ => False.elim w, ft.calm⟩
theorem Here.blk (own : List Nat) (h : Here F σ H μ ρ φ η fr lv) : Here F.blk (L2.wipe σ own) H μ (Sv.wipe own ρ) [] η fr lv :=
  ⟨h.rel, by rw [L2.wipe_length, wipeE_len]; exact h.len, fun i d e => by
    obtain ⟨h1, h2⟩ := wipeE_get e
    obtain ⟨v, h3, h4⟩ := h.env i d h2
    exact ⟨v, by rw [wipe_get h1]; exact h3, h4⟩, fun j g e => by simp at e, h.exn, h.calm, rfl, fun i a e => nomatch e⟩

/-! ### targets of names -/
def TGn (F : Fm) (own : List Nat) (t : T) : TG := fun v σ H Q => ∃ μ ρ φ η fr lv d ρ', Here F σ H μ ρ φ η fr lv ∧ Rp F.z μ (fr.length + lv.length) H d v ∧ asgN ρ t d = some ρ' ∧
  ∀ σ', Here F σ' H μ ρ' φ η fr lv → L2.wipe σ' own = L2.wipe σ own → Q σ' H
def TGns (F : Fm) (own : List Nat) (ts : List T) : TGs := fun vs σ H Q => ∃ μ ρ φ η fr lv ds ρ', Here F σ H μ ρ φ η fr lv ∧ Rps F.z μ (fr.length + lv.length) H ds vs ∧ asgNs ρ ts ds = some ρ' ∧
  ∀ σ', Here F σ' H μ ρ' φ η fr lv → L2.wipe σ' own = L2.wipe σ own → Q σ' H
theorem gn_name {own : List Nat} {i : Nat} {x : Str} {pos : Pos} (ho : i ∈ own) (hN : X.N.Nodup) (hi : X.N[i]? = some x) (hx : Loc X.env.scope x) (hf : X.fn x = true ∨ X.env.scope.names.lookup x = some .local) (hd : SlotOk F i) : PG X (.Name x pos) (TGn F own (.nm i)) :=
  (pg_name hN hi hx hf).imp fun v σ H Q ⟨μ, ρ, φ, η, fr, lv, d, ρ', hh, r, e, g⟩ => by
    simp only [asgN] at e
    split at e
    · cases e
      exact g _ (hh.set hd r) (wipe_set ho)
    · cases e
theorem gns_nil {own : List Nat} : PGs X [] (TGns F own []) := pgs_nil.imp fun vs σ H Q ⟨μ, ρ, φ, η, fr, lv, ds, ρ', hh, r, e, g⟩ => by
  cases ds with
  | nil =>
    simp only [asgNs, Option.some.injEq] at e
    subst e
    simp only [Rps] at r
    exact ⟨r, g _ hh rfl⟩
  | cons d ds => simp [asgNs] at e
theorem gns_cons {own : List Nat} {e : Expr} {es : List Expr} {t : T} {ts : List T} (h1 : PG X e (TGn F own t)) (h2 : PGs X es (TGns F own ts)) (hs : (assignEach (e :: es) X.env).map (·.2) = assign e X.env :: (assignEach es X.env).map (·.2)) : PGs X (e :: es) (TGns F own (t :: ts)) :=
  (pgs_cons h1 h2 hs).imp fun vs σ H Q ⟨μ, ρ, φ, η, fr, lv, ds, ρ', hh, r, e, g⟩ => by
    cases ds with
    | nil => simp [asgNs] at e
    | cons d ds =>
      simp only [asgNs] at e
      simp only [Rps] at r
      obtain ⟨v, vr, rfl, r1, r2⟩ := r
      cases e1 : asgN ρ t d with
      | none => rw [e1] at e; cases e
      | some ρ1 =>
        rw [e1] at e
        exact ⟨v, vr, rfl, μ, ρ, φ, η, fr, lv, d, ρ1, hh, r1, e1, fun σ1 h1 w1 => ⟨μ, ρ1, φ, η, fr, lv, ds, ρ', h1, r2, e, fun σ2 h2 w2 => g σ2 h2 (w2.trans w1)⟩⟩
theorem asgNs_len : ∀ {ts : List T} {ds : List Sv.D} {ρ ρ' : Sv.Env}, asgNs ρ ts ds = some ρ' → ts.length = ds.length
  | [], [], _, _, _ => rfl
  | [], _ :: _, _, _, e => by simp [asgNs] at e
  | _ :: _, [], _, _, e => by simp [asgNs] at e
  | t :: ts, d :: ds, ρ, ρ', e => by
    simp only [asgNs] at e
    cases e1 : asgN ρ t d with
    | none => rw [e1] at e; cases e
    | some ρ1 =>
      rw [e1] at e
      rw [List.length_cons, List.length_cons, asgNs_len e]
theorem gn_tup (ft : Fits X F) {own : List Nat} {es : List Expr} {k n : Nat} {ts : List T} {pos : Pos} (hc : X.calm = true) (h : PGs X es (TGns F own ts)) (hn : (assignEach es X.env).length = n) (hst : (assignEach es X.env).findIdx? (·.1) = none) (hl : ts.length = n) :
    PG X (.Tuple es k pos) (TGn F own (.tp ts)) :=
  (pg_tup hc h hn hst).imp fun v σ H Q ⟨μ, ρ, φ, η, fr, lv, d, ρ', hh, r, e, g⟩ => by
    cases d with
    | tup ds =>
      simp only [asgN] at e
      obtain ⟨a, vs, rfl, h1, h2⟩ := rp_tup r
      exact ⟨a, vs, rfl, by rw [ft.K]; exact h1, by rw [← h2.length, ← hl]; exact (asgNs_len e).symm, μ, ρ, φ, η, fr, lv, ds, ρ', hh, h2, e, g⟩
    | _ => simp [asgN] at e

/-! ### the list being made stays as it is -/
def tLockT (t : TT) : TT := fun σ H Q => ∃ d u, H d = some u ∧ Mut (some u) ∧ ∀ od, t σ (upd H d (.frz od u)) fun b H' => H' d = some (.frz od u) ∧ Q b (upd H' d u)
theorem pt_lock {e : Expr} {t : TT} (h : PT X e t) : PT X e (tLockT t) := by
  refine ⟨fun pins s σ H Q I hw => ?_⟩
  obtain ⟨d, u, hd, mu, hw⟩ := hw
  obtain ⟨od, I1⟩ := I.lock hd mu
  exact thn (h.run pins s σ _ _ I1 (hw od)) fun b s1 ⟨H1, I2, e2, q⟩ => ⟨_, I2.unlock e2 (I.nofrz hd mu), q⟩
/-- an object that is no place of the store -/
def Apart (μ : Nat → Addr) (n : Nat) (p : Addr) : Prop := ∀ l, l < n → μ l ≠ p
theorem lst_ne {vs : List V} {od : Obj} : (∀ xs, HO.frz od (.lst vs) ≠ .tup xs) ∧ (∀ o xs, HO.frz od (.lst vs) ≠ .frz o (.tup xs)) ∧ ∀ x, HO.frz od (.lst vs) ≠ .xd x := ⟨(fun _ z => nomatch z), (fun o xs z => nomatch (HO.frz.inj z).2), fun _ z => nomatch z⟩
theorem rel_apart {Z : Zx} {p : Addr} {ho : HO} (r : Rel Z μ H fr lv) (a : Apart μ (fr.length + lv.length) p) (g : Gr0 Z H (upd H p ho)) : Rel Z μ (upd H p ho) fr lv :=
  ⟨r.inj, fun l o e => (r.obj l o e).gr0 g fun u hu => by rw [upd_ne (a l (look_lt e))]; exact hu⟩
/-- an untold thing is frozen -/
theorem Here.freeze {p : Addr} {u : HO} {od : Obj} (h : Here F σ H μ ρ φ η fr lv) (hp : H p = some u) (a : Apart μ (fr.length + lv.length) p) (n1 : ∀ xs, u ≠ .tup xs) (n2 : ∀ o xs, u ≠ .frz o (.tup xs)) (n3 : ∀ x, u ≠ .xd x) : Here F σ (upd H p (.frz od u)) μ ρ φ η fr lv :=
  let g := gr0_upd hp n1 n2 n3
  h.move (rel_apart h.rel a g) rfl g
/-- .. and written later -/
theorem thaw {Z : Zx} {p : Addr} {u u' : HO} {od : Obj} {μ5 : Nat → Addr} {H5 : Hp} {lv5 : Sto} (hp : H p = some u) (hu : ∀ x y, u ≠ .frz x y) (hut : (∀ xs, u ≠ .tup xs) ∧ ∀ xs, u ≠ .xd xs) (a : Apart μ (fr.length + lv.length) p)
    (r5 : Rel Z μ5 H5 fr lv5) (g5 : Grow fr.length μ (fr.length + lv.length) (upd H p (.frz od u)) μ5 (fr.length + lv5.length) H5) (ap5 : Apart μ5 (fr.length + lv5.length) p) :
    Rel Z μ5 (upd H5 p u') fr lv5 ∧ Gr0 Z H5 (upd H5 p u') ∧ Grow fr.length μ (fr.length + lv.length) H μ5 (fr.length + lv5.length) (upd H5 p u') := by
  have h5 : H5 p = some (.frz od u) := g5.frzs _ _ _ upd_same
  have g0 : Gr0 Z H5 (upd H5 p u') := gr0_upd h5 (fun _ z => nomatch z) (fun o xs z => hut.1 xs (HO.frz.inj z).2) (fun _ z => nomatch z)
  refine ⟨rel_apart r5 ap5 g0, g0, g5.le, g5.mu, fun b xs q => ?_, fun b o v q => ?_, fun b v q => ?_, fun k hk v q => ?_⟩
  · have hb : b ≠ p := fun z => by rw [z, hp] at q; exact hut.1 _ (Option.some.inj q)
    rw [upd_ne hb]
    exact g5.tups _ _ (by rw [upd_ne hb]; exact q)
  · have hb : b ≠ p := fun z => by rw [z, hp] at q; exact hu _ _ (Option.some.inj q)
    rw [upd_ne hb]
    exact g5.frzs _ _ _ (by rw [upd_ne hb]; exact q)
  · have hb : b ≠ p := fun z => by rw [z, hp] at q; exact hut.2 _ (Option.some.inj q)
    rw [upd_ne hb]
    exact g5.xds _ _ (by rw [upd_ne hb]; exact q)
  · have hb : μ k ≠ p := a k (Nat.lt_of_lt_of_le hk (Nat.le_add_right _ _))
    rw [upd_ne hb]
    exact g5.old k hk v (by rw [upd_ne hb]; exact q)
/-- a frozen list is no place of a later store -/
theorem apart_lst {Z : Zx} {p : Addr} {vs : List V} {od : Obj} {μ5 : Nat → Addr} {H5 : Hp} {lv5 : Sto} (a : Apart μ (fr.length + lv.length) p) (r5 : Rel Z μ5 H5 fr lv5) (g5 : Grow fr.length μ (fr.length + lv.length) (upd H p (.frz od (.lst vs))) μ5 (fr.length + lv5.length) H5) : Apart μ5 (fr.length + lv5.length) p := fun l hl z => by
  have h5 : H5 p = some (.frz od (.lst vs)) := g5.frzs _ _ _ upd_same
  by_cases c : l < fr.length + lv.length
  · exact a l c (by rw [← g5.mu l c]; exact z)
  · obtain ⟨o, e⟩ := look_some hl
    have hw : decide (fr.length ≤ l) = true := decide_eq_true (by omega)
    have q := r5.obj l o e
    rw [hw, z] at q
    cases o with
    | lst xs =>
      obtain ⟨_, _, q⟩ := q
      rw [if_pos rfl, h5] at q
      cases q
    | dct kvs lk =>
      obtain ⟨_, _, _, es, _, q⟩ := q
      split at q
      · rw [h5] at q
        exact dictO_ne_frz (Option.some.inj q).symm
      · rcases q with q | ⟨o, q⟩
        · rw [h5] at q
          exact dictO_ne_frz (Option.some.inj q).symm
        · rw [h5] at q
          exact dictO_ne_lst (HO.frz.inj (Option.some.inj q)).2.symm
    | ins c fs =>
      obtain ⟨_, _, q, _⟩ := q
      rw [h5] at q
      cases q
/-- an object that is there becomes a place of the store -/
theorem Rel.adopt {Z : Zx} {p : Addr} {o : O} (r : Rel Z μ H fr lv) (a : Apart μ (fr.length + lv.length) p) (h : ObjR Z (bump μ (fr.length + lv.length) p) (fr.length + lv.length + 1) H true p o) : Rel Z (bump μ (fr.length + lv.length) p) H fr (lv ++ [o]) := by
  have hlen : fr.length + (lv ++ [o]).length = fr.length + lv.length + 1 := by simp; omega
  have gb : Grow 0 μ (fr.length + lv.length) H (bump μ (fr.length + lv.length) p) (fr.length + lv.length + 1) H := ⟨Nat.le_succ _, fun l h => bump_lt h, fun _ _ h => h, fun _ _ _ h => h, fun _ _ h => h, fun l h => absurd h (Nat.not_lt_zero l)⟩
  refine ⟨fun i j hi hj e => ?_, fun l u e => ?_⟩
  · rw [hlen] at hi hj
    by_cases h1 : i = fr.length + lv.length <;> by_cases h2 : j = fr.length + lv.length
    · omega
    · have hj' : j < fr.length + lv.length := by omega
      rw [h1, bump_self, bump_lt hj'] at e
      exact absurd e.symm (a j hj')
    · have hi' : i < fr.length + lv.length := by omega
      rw [h2, bump_self, bump_lt hi'] at e
      exact absurd e (a i hi')
    · have hi' : i < fr.length + lv.length := by omega
      have hj' : j < fr.length + lv.length := by omega
      rw [bump_lt hi', bump_lt hj'] at e
      exact r.inj i j hi' hj' e
  · rw [hlen]
    have hl := look_lt e
    rw [hlen] at hl
    by_cases h1 : l = fr.length + lv.length
    · subst h1
      have e2 : u = o := by
        unfold look at e
        rw [← List.append_assoc, List.getElem?_append_right (by simp)] at e
        simpa using e.symm
      subst e2
      rw [bump_self]
      have : decide (fr.length ≤ fr.length + lv.length) = true := by simp
      rw [this]
      exact h
    · have hl' : l < fr.length + lv.length := by omega
      have e2 : look fr lv l = some u := by
        unfold look at e ⊢
        rw [← List.append_assoc, List.getElem?_append_left (by simpa using hl')] at e
        exact e
      rw [bump_lt hl']
      exact (r.obj l u e2).grow gb fun v q => q
theorem Grow.adopt {f : Nat} {n : Nat} {p : Addr} : Grow f μ n H (Sv.bump μ n p) (n + 1) H := ⟨Nat.le_succ _, fun l h => bump_lt h, fun _ _ h => h, fun _ _ _ h => h, fun _ _ h => h, fun _ _ _ h => h⟩
theorem lcL_nil {α : Type} {body : Sv.D → Sto → R (Option α)} {ok : Sto → Bool} {s sE : Sto} {ys : List α} (h : lcL body ok [] s = .ok ys sE) : ys = [] ∧ sE = s := by
  simp only [lcL, R.ok.injEq] at h
  exact ⟨h.1.symm, h.2.symm⟩
def consO {α : Type} : Option α → List α → List α
  | some y, ys => y :: ys
  | none, ys => ys
theorem lcL_step {α : Type} {body : Sv.D → Sto → R (Option α)} {ok : Sto → Bool} {d : Sv.D} {ds : List Sv.D} {s : Sto} : lcL body ok (d :: ds) s = (body d s).bind fun y s => if ok s then (lcL body ok ds s).bind fun ys s => .ok (consO y ys) s else .bad := by
  simp only [lcL]
  congr 1
  funext y s
  cases y <;> rfl
theorem lcL_cons {α : Type} {body : Sv.D → Sto → R (Option α)} {ok : Sto → Bool} {d : Sv.D} {ds : List Sv.D} {s sE : Sto} {ys : List α} (h : lcL body ok (d :: ds) s = .ok ys sE) :
    ∃ y s1 zs, body d s = .ok y s1 ∧ ok s1 = true ∧ lcL body ok ds s1 = .ok zs sE ∧ ys = consO y zs := by
  rw [lcL_step] at h
  cases e : body d s with
  | bad => rw [e] at h; cases h
  | ex c v s1 => rw [e] at h; cases h
  | ok y s1 =>
    rw [e] at h
    have h : (if ok s1 then (lcL body ok ds s1).bind fun ys s => .ok (consO y ys) s else .bad) = .ok ys sE := h
    split at h
    · rename_i c
      cases e2 : lcL body ok ds s1 with
      | bad => rw [e2] at h; cases h
      | ex c v s1 => rw [e2] at h; cases h
      | ok zs s2 =>
        rw [e2] at h
        simp only [R.bind, R.ok.injEq] at h
        obtain ⟨h1, rfl⟩ := h
        exact ⟨y, s1, zs, rfl, c, e2, h1.symm⟩
    · cases h
theorem stays_lock {w : Wt} {s : Sto} {μ1 : Nat → Addr} {H1 HL : Hp} (lk : Lk X H1 HL μ1 fr s w) (st0 : stays fr s w = true) : stays fr (lockS fr s w) w = true := by
  cases w with
  | none => rfl
  | lists _ => exact st0
  | dict l kvs =>
    obtain ⟨lk0, od, es, e0, _⟩ := lk
    rw [lockS_dict]
    cases q : put fr s l (.dct kvs true) with
    | none => exact st0
    | some s2 =>
      show (match look fr s2 l with
        | some (.dct ks _) => decide (ks = kvs)
        | _ => false) = true
      rw [look_put q, if_pos rfl]
      exact decide_eq_true rfl
/-- the turn of a list comprehension -/
def lcB (G : Orc) (fr : Sto) (η : Option (Nat × List Sv.D)) (own : List Nat) (t : T) (cond : Option C) (e : C) (ρ : Sv.Env) : Sv.D → Sto → R (Option Sv.D) := fun d s => match asgN (Sv.wipe own ρ) t d with
  | some ρ1 => (match cond with
    | some c => (ev G fr [] η c ρ1 s).bind fun x s => asBool x s
    | none => R.ok true s).bind fun b s => if b then (ev G fr [] η e ρ1 s).bind fun y s => R.ok (some y) s else R.ok none s
  | none => .bad
/-- the condition, read -/
def tCond (F : Fm) (G : Orc) : Option C → TT
  | none => tYes
  | some c => tLockT (TTo F.blk (evb G c))
theorem upd_twice {a : Addr} {u v : HO} {H : Hp} : upd (upd H a u) a v = upd H a v := by
  funext b
  by_cases c : b = a
  · subst c; rw [upd_same, upd_same]
  · rw [upd_ne c, upd_ne c, upd_ne c]
theorem bind_ok {α β : Type} {x : R α} {f : α → Sto → R β} {b : β} {s : Sto} (h : x.bind f = .ok b s) : ∃ a s1, x = .ok a s1 ∧ f a s1 = .ok b s := by
  cases x with
  | ok a s1 => exact ⟨a, s1, rfl, h⟩
  | ex c v s1 => cases h
  | bad => cases h
/-- what each turn of the list's making leaves -/
structure LcW (F : Fm) (σ : L2.St) (ρ : Sv.Env) (η : Option (Nat × List Sv.D)) (fr : Sto) (μ1 : Nat → Addr) (n1 : Nat) (HL : Hp) (w : Wt) (p : Addr) (acc : List Sv.D) (μ : Nat → Addr) (lv : Sto) (H : Hp) : Prop where
  here : Here F σ H μ ρ [] η fr lv
  grow : Grow fr.length μ1 n1 HL μ (fr.length + lv.length) H
  apart : Apart μ (fr.length + lv.length) p
  lst : ∃ vs, H p = some (.lst vs) ∧ Rps F.z μ (fr.length + lv.length) H acc vs
  st : stays fr lv w = true
theorem lc_of (ft : Fits X F) {own : List Nat} {e : C} {t : T} {it : I} {cond : Option C} {Q : VK} (h : TEo F (evm G (.lc e own t it cond)) σ H Q) :
    tLc (TIo X F (evIm G it)) (TGn F.blk own t) (tCond F G cond) (tLockE (TEo F.blk (evm G e))) own σ H fun v H' => ∃ H2, Ul X H' H2 ∧ Q v H2 := by
    obtain ⟨μ, ρ, φ, η, fr, lv, hh, g⟩ := h
    simp only [evm, ev] at g
    refine ⟨μ, ρ, φ, η, fr, lv, hh, ?_⟩
    show GoI X F σ H μ fr lv (evI G fr φ η it ρ lv) _
    cases ei : evI G fr φ η it ρ lv with
    | bad => rw [ei] at g; exact g
    | ex k v s => rw [ei] at g; exact g
    | ok p s =>
      obtain ⟨ds, w⟩ := p
      rw [ei] at g
      by_cases st0 : stays fr s w = true
      case neg =>
        have e6 : (!stays fr s w) = true := by simpa using st0
        have g : Go F (YV F) σ H μ fr lv (if !stays fr s w then .bad else _) Q := g
        rw [if_pos e6] at g
        exact g.elim
      have e7 : ¬(!stays fr s w) = true := by simpa using st0
      have g : Go F (YV F) σ H μ fr lv (if !stays fr s w then .bad else (lcL (lcB G fr η own t cond e ρ) (fun s => stays fr s w) ds (lockS fr s w)).noex.bind fun ys s2 => newL fr (unlockS fr s2 (wasLocked fr s w) w) ys) Q := g
      rw [if_neg e7] at g
      cases etot : lcL (lcB G fr η own t cond e ρ) (fun s => stays fr s w) ds (lockS fr s w) with
      | bad => rw [etot] at g; exact g.elim
      | ex c v s => rw [etot] at g; exact g.elim
      | ok ys sE =>
        rw [etot] at g
        have g : Go F (YV F) σ H μ fr lv (newL fr (unlockS fr sE (wasLocked fr s w) w) ys) Q := g
        have hz : ys.length ≤ lineMax := by
          unfold newL at g
          split at g
          · assumption
          · exact g.elim
        have hzz := lineMax_le
        unfold newL at g
        rw [if_pos hz] at g
        intro J H1 HL μ1 r1 g1 lk src Dd hDd
        obtain ⟨rL, grL⟩ := lk.start r1
        have hL := ((hh.grow ft.clo r1 g1).move rL (lockS_len w) grL).blk own
        have stL := stays_lock lk st0
        have nx : ∀ b u, HL b = some u → upd HL Dd (.lst []) b = some u := upd_new hDd
        have w0 : LcW F.blk (L2.wipe σ own) (Sv.wipe own ρ) η fr μ1 (fr.length + (lockS fr s w).length) HL w Dd [] μ1 (lockS fr s w) (upd HL Dd (.lst [])) :=
          ⟨hL.grow trivial (hL.rel.same nx) (Grow.same nx), Grow.same nx, (fun l hl z => by
            obtain ⟨u, hu⟩ := rL.there hl
            rw [z, hDd] at hu
            cases hu), ⟨[], upd_same, by simp [Rps]⟩, stL⟩
        refine ⟨fun i m H' => ∃ μ' lv' acc rest, LcW F.blk (L2.wipe σ own) (Sv.wipe own ρ) η fr μ1 (fr.length + (lockS fr s w).length) HL w Dd acc μ' lv' H' ∧ m = ds.length - i ∧
          lcL (lcB G fr η own t cond e ρ) (fun s => stays fr s w) (ds.drop i) lv' = .ok rest sE ∧ ys = acc ++ rest, ⟨_, μ1, _, [], ys, w0, rfl, etot, rfl⟩, ?_⟩
        rintro i m H2 ⟨μ2, lv2, acc, rest, W2, rfl, k2, ey⟩
        obtain ⟨s1, s2⟩ := src i μ2 lv2 H2 W2.here.rel W2.grow W2.st
        by_cases hlt : i < ds.length
        · refine .inr ⟨(s1 ds[i] (List.getElem?_eq_getElem hlt)).1, fun H' => ∃ μ' lv' acc rest, LcW F.blk (L2.wipe σ own) (Sv.wipe own ρ) η fr μ1 (fr.length + (lockS fr s w).length) HL w Dd acc μ' lv' H' ∧
            lcL (lcB G fr η own t cond e ρ) (fun s => stays fr s w) (ds.drop (i + 1)) lv' = .ok rest sE ∧ ys = acc ++ rest, fun H' ⟨μ', lv', acc, rest, a, b, c⟩ => ⟨_, by omega, μ', lv', acc, rest, a, rfl, b, c⟩, fun x H3 hy => ?_⟩
          obtain ⟨e3, y3⟩ := (s1 ds[i] (List.getElem?_eq_getElem hlt)).2 x H3 hy
          have g3 : Grow fr.length μ2 (fr.length + lv2.length) H2 μ2 (fr.length + lv2.length) H3 := Grow.same e3
          have h3 := W2.here.grow trivial (W2.here.rel.same e3) g3
          have G3 := Grow.trans (Nat.le_add_right _ _) W2.grow g3
          obtain ⟨vs, hv1, hv2⟩ := W2.lst
          have hv1 := e3 _ _ hv1
          have hv2 := Rps.grow g3 _ _ hv2
          rw [List.drop_eq_getElem_cons hlt] at k2
          obtain ⟨y, sB, zs, b1, b2, b3, b4⟩ := lcL_cons k2
          unfold lcB at b1
          cases e4 : asgN (Sv.wipe own ρ) t ds[i] with
          | none => rw [e4] at b1; cases b1
          | some ρ4 =>
            rw [e4] at b1
            refine ⟨μ2, Sv.wipe own ρ, [], η, fr, lv2, ds[i], ρ4, h3, y3, e4, fun σ4 h4 hw4 => ⟨by rw [hw4, wipe_wipe], ?_⟩⟩
            obtain ⟨b, sC, c1, c2⟩ := bind_ok b1
            -- behind the condition
            have back : ∀ {σ' : L2.St} {μ5 : Nat → Addr} {lv5 : Sto} {H5 : Hp}, Rel F.z μ5 H5 fr lv5 → Grow fr.length μ1 (fr.length + (lockS fr s w).length) HL μ5 (fr.length + lv5.length) H5 → Here F.blk (L2.wipe σ own) H5 μ5 (Sv.wipe own ρ) [] η fr lv5 := fun {σ' μ5 lv5 H5} r5 g5 => hL.grow trivial r5 g5
            have cnd : ∀ {Q' : Bool → Hp → Prop}, (∀ μ5 H5, Here F.blk σ4 H5 μ5 ρ4 [] η fr sC → Grow fr.length μ1 (fr.length + (lockS fr s w).length) HL μ5 (fr.length + sC.length) H5 → Apart μ5 (fr.length + sC.length) Dd → H5 Dd = some (.lst vs) → Rps F.z μ5 (fr.length + sC.length) H5 acc vs → Q' b H5) → tCond F G cond σ4 H3 Q' := fun {Q'} q => by
              cases cond with
              | none =>
                cases c1
                exact q μ2 H3 h4 G3 W2.apart hv1 hv2
              | some c =>
                refine ⟨Dd, .lst vs, hv1, trivial, fun od => ?_⟩
                refine ⟨μ2, ρ4, [], η, fr, lv2, h4.freeze hv1 W2.apart (fun _ z => nomatch z) (fun _ _ z => nomatch z) (fun _ z => nomatch z), ?_⟩
                show Go F.blk _ σ4 _ μ2 fr lv2 ((ev G fr [] η c ρ4 lv2).bind fun x s => asBool x s) _
                have c1 : ((ev G fr [] η c ρ4 lv2).bind fun x s => asBool x s) = .ok b sC := c1
                rw [c1]
                intro b5 H5 μ5 r5 g5 y5
                obtain rfl := y5
                have a5 := apart_lst W2.apart r5 g5
                obtain ⟨r6, g06, g6⟩ := thaw (u' := .lst vs) hv1 (fun _ _ z => nomatch z) ⟨(fun _ z => nomatch z), fun _ z => nomatch z⟩ W2.apart r5 g5 a5
                refine ⟨g5.frzs _ _ _ upd_same, q μ5 _ (h4.grow trivial r6 g6) (Grow.trans (Nat.le_add_right _ _) G3 g6) a5 upd_same (Rps.grow g6 _ _ hv2)⟩
            refine cnd fun μ5 H5 h5 g5 a5 hv5 hr5 => ?_
            cases b with
            | false =>
              rw [if_neg Bool.false_ne_true]
              rw [if_neg Bool.false_ne_true] at c2
              cases c2
              exact ⟨μ5, sB, acc, zs, ⟨back (σ' := σ) h5.rel g5, g5, a5, ⟨vs, hv5, hr5⟩, b2⟩, b3, by rw [ey, b4]; rfl⟩
            | true =>
              rw [if_pos rfl]
              rw [if_pos rfl] at c2
              obtain ⟨yd, sD, d1, d2⟩ := bind_ok c2
              cases d2
              refine ⟨Dd, .lst vs, hv5, trivial, fun od => ?_⟩
              refine ⟨μ5, ρ4, [], η, fr, sC, h5.freeze hv5 a5 (fun _ z => nomatch z) (fun _ _ z => nomatch z) (fun _ z => nomatch z), ?_⟩
              show Go F.blk _ σ4 _ μ5 fr sC (ev G fr [] η e ρ4 sC) _
              rw [d1]
              intro v7 H7 μ7 r7 g7 y7
              have a7 := apart_lst a5 r7 g7
              obtain ⟨r8, g08, g8⟩ := thaw (u' := .lst (vs ++ [v7])) hv5 (fun _ _ z => nomatch z) ⟨(fun _ z => nomatch z), fun _ z => nomatch z⟩ a5 r7 g7 a7
              have G8 := Grow.trans (Nat.le_add_right _ _) g5 g8
              refine ⟨g7.frzs _ _ _ upd_same, vs, upd_same, ?_, μ7, sB, acc ++ [yd], zs, ?_, b3, by rw [ey, b4]; simp [consO]⟩
              · have : ys.length = acc.length + (zs.length + 1) := by rw [ey, b4]; simp [consO]
                have := hr5.length
                omega
              · rw [upd_twice]
                exact ⟨back (σ' := σ) r8 G8, G8, a7, ⟨vs ++ [v7], upd_same, (Rps.grow g8 _ _ hr5).app (.one (Rp.gr0 g08 _ _ y7))⟩, b2⟩
        · have hge : ds.length ≤ i := Nat.le_of_not_lt hlt
          rw [List.drop_eq_nil_of_le hge] at k2
          obtain ⟨rfl, rfl⟩ := lcL_nil k2
          rw [List.append_nil] at ey
          subst ey
          have gg := W2.grow
          rw [lockS_len] at gg
          obtain ⟨H7, u, r7, g7, g0⟩ := lk.stop r1 W2.here.rel gg W2.st
          obtain ⟨vs, hv1, hv2⟩ := W2.lst
          have hl7 : (unlockS fr sE (wasLocked fr s w) w).length = sE.length := unlockS_len _ _
          refine .inl ⟨s2 hge, H7, u, ?_⟩
          have hp7 : H7 Dd = some (.lst vs) := by
            rcases u with rfl | ⟨d, od, u, h1, h2, rfl⟩
            · exact hv1
            · rw [upd_ne (fun z => by rw [z, h1] at hv1; cases hv1)]
              exact hv1
          have ap7 : Apart μ2 (fr.length + (unlockS fr sE (wasLocked fr s w) w).length) Dd := by rw [hl7]; exact W2.apart
          have R7 := Rel.adopt (o := .lst ys) r7 ap7 ⟨vs, by rw [hl7]; exact Rps.grow (Grow.adopt (f := 0)) _ _ (Rps.gr0 g0 _ _ hv2), by rw [if_pos rfl]; exact hp7⟩
          refine g (.ref Dd) H7 _ R7 ?_ ?_
          · refine Grow.trans (Nat.le_add_right _ _) g1 (Grow.trans (Nat.le_add_right _ _) g7 ?_)
            rw [hl7]
            have : fr.length + (unlockS fr sE (wasLocked fr s w) w ++ [O.lst ys]).length = fr.length + sE.length + 1 := by simp [hl7]; omega
            rw [this]
            exact Grow.adopt
          · show Rp F.z _ _ _ (.ref _) _
            simp only [Rp]
            exact ⟨by simp, by rw [bump_self]⟩
theorem pd_lc (ft : Fits X F) (hc : X.calm = true) {elt tg iter : Expr} {ifs : List Expr} {scope : Scope} {own : List (Str × Nat)} {pos : Pos} {e : C} {t : T} {it : I} {cond : Option C} (hi : PI X tg iter (TIo X F (evIm G it))) (ok : BlkOk X.N X.env.scope scope own)
    (hg : ∀ (s : Shared) (H : Hp) (C : Addr) (cl : List (Str × Addr)) (fp : List Addr), PG (X.blk s H scope (compEnvC scope cl C X.env) fp) tg (TGn F.blk (own.map (·.2)) t))
    (ht : ∀ (s : Shared) (H : Hp) (C : Addr) (cl : List (Str × Addr)) (fp : List Addr), PTs (X.blk s H scope (compEnvC scope cl C X.env) fp) ifs (tCond F G cond))
    (he : ∀ (s : Shared) (H : Hp) (C : Addr) (cl : List (Str × Addr)) (fp : List Addr), PE (X.blk s H scope (compEnvC scope cl C X.env) fp) elt (TEo F.blk (evm G e))) (hs : ∀ x, foldedSetIterable iter X.env x = pure x) :
    PE X (.ListComp elt [⟨tg, iter, ifs, 0⟩] scope pos) (TEo F (evm G (.lc e (own.map (·.2)) t it cond))) :=
  (pe_unl (pe_lc hc ft.nd hi ok hg ht (fun s H C cl fp => pe_lock (he s H C cl fp)) hs)).imp fun σ H Q h => lc_of ft h
/-- name = [..] on one line -/
theorem sd_setLc (ft : Fits X F) (hc : X.calm = true) {i : Nat} {y : Str} {py spos : Pos} {elt tg iter : Expr} {ifs : List Expr} {scope : Scope} {own : List (Str × Nat)} {pos : Pos} {e : C} {t : T} {it : I} {cond : Option C} (hy : X.N[i]? = some y) (hyl : X.env.scope.names.lookup y = some .local)
    (hsw : swapsWith (.ListComp elt [⟨tg, iter, ifs, 0⟩] scope pos) (some (.Name y py)) spos.line X.env = pure true) (hd : SlotOk F i) (hi : PI X tg iter (TIo X F (evIm G it))) (ok : BlkOk X.N X.env.scope scope own)
    (hg : ∀ (s : Shared) (H : Hp) (C : Addr) (cl : List (Str × Addr)) (fp : List Addr), PG (X.blk s H scope (compEnvC scope cl C X.env) fp) tg (TGn F.blk (own.map (·.2)) t))
    (ht : ∀ (s : Shared) (H : Hp) (C : Addr) (cl : List (Str × Addr)) (fp : List Addr), PTs (X.blk s H scope (compEnvC scope cl C X.env) fp) ifs (tCond F G cond))
    (he : ∀ (s : Shared) (H : Hp) (C : Addr) (cl : List (Str × Addr)) (fp : List Addr), PE (X.blk s H scope (compEnvC scope cl C X.env) fp) elt (TEo F.blk (evm G e))) (hs : ∀ x, foldedSetIterable iter X.env x = pure x) :
    PS X (.Assign [.Name y py] (.ListComp elt [⟨tg, iter, ifs, 0⟩] scope pos) spos) (TSo F (exm G (.asg (.nm i) (.lc e (own.map (·.2)) t it cond)))) :=
  (ps_unl (ps_setLc hc ft.nd hy hyl hsw hi ok hg ht (fun s H C cl fp => pe_lock (he s H C cl fp)) hs)).imp fun D σ H ⟨μ, ρ, φ, η, fr, lv, hh, g⟩ => by
    simp only [exm, exec] at g
    refine lc_of (Q := fun v H2 => D.nx (σ.set i (some v)) H2) ft ?_
    refine (te_stm (ma := evm G (.lc e (own.map (·.2)) t it cond)) ft hh g).mono fun x H1 ⟨d, s, μ1, h1, g1, r1, k1⟩ => ?_
    simp only [asg] at k1
    split at k1
    · exact k1 _ _ _ (h1.set hd r1) .refl
    · exact k1.elim
end
end Sv
end -- Sem19
section -- Sem20
set_option Elab.async false
set_option linter.all false
set_option maxRecDepth 100000
set_option maxHeartbeats 2000000
set_option exponentiation.threshold 3000
/-! # Errors -/
namespace Sv
open PySem PySem.Spec PyProof.Rows L2

section
variable {X : Cx} {F : Fm} {G : Orc} {D : Ends} {σ : L2.St} {H H' : Hp} {μ μ' : Nat → Addr} {ρ : Sv.Env} {φ : List FV} {η : Option (Nat × List Sv.D)} {fr lv lv' : Sto}
theorem rps1 {Z : Zx} {n : Nat} {d : Sv.D} {vs : List V} (h : Rps Z μ n H [d] vs) : ∃ v, vs = [v] ∧ Rp Z μ n H d v := by
  simp only [Rps] at h
  obtain ⟨v, r, rfl, h1, rfl⟩ := h
  exact ⟨v, rfl, h1⟩
/-! ### raise -/
/-- the promise of an own error's __init__: its one field; does its text tell the number -/
def spE (C : Addr) (f : Str) (kd : Bool) : Sp := fun vs H Q _ => ∃ a x, vs = [.ref a, x] ∧ H a = some (exo a C none) ∧ (kd = true → ∃ i : Int, x = .int i ∧ i.natAbs.log2 < 1920) ∧
  ∀ dx, H dx = none → dx ≠ a → Q .non (upd (upd H dx (exd dx [(f, x)])) a (exo a C (some dx)))
/-- what is known of an own error -/
structure ExF (X : Cx) (Z : Zx) (k : Nat) (x : Str) (c : Nat) : Prop where
  mg : X.mg x = some (.ref (Z.exA c))
  oex : OexC X.K (Z.exA c)
  init : ∃ fI fd ps f, Z.exF c = [f] ∧ PySem.W.findIn X.K (.ref (Z.exA c)) "__init__" = some (some (.ref fI)) ∧ PySem.W.typeIn X.K (.ref fI) = some (.type "function") ∧
    FnOk X.prog X.w X.K X.mg X.base (CX X.prog X.w) k fI fd ps (spE (Z.exA c) f (exInt.contains c)) ∧ Binds X.K fd ps []
theorem log_lt' {i : Int} (h : i.natAbs < 10 ^ 500) : i.natAbs.log2 < 1920 := by
  by_cases e : i.natAbs = 0
  · rw [e]; decide
  · rw [Nat.log2_lt e]
    exact Nat.lt_trans h (by decide)
theorem raiseOk_of {c : Nat} {ds : List Sv.D} (h : raiseOk c ds = true) : ∃ d, ds = [d] ∧ (exInt.contains c = true → ∃ i : Int, d = .int i ∧ i.natAbs < 10 ^ 500) := by
  unfold raiseOk at h
  split at h
  · rename_i d
    refine ⟨d, rfl, fun hc => ?_⟩
    rw [hc] at h
    cases d with
    | int i => exact ⟨i, rfl, by simpa using h⟩
    | _ => simp at h
  · cases h
theorem sd_raise (ft : Fits X F) (hc : X.calm = true) {k : Nat} {x : Str} {c : Nat} {e : Expr} {es : List Expr} {cs : List C} {p1 p2 pos : Pos} (xf : ExF X F.z k x c) (hr : Room (k + 1) X.A) (hg : Gl X x) (ha : PA X (e :: es) (TAo F (evsm G cs))) (hdb : (x == ("__debug__" : Str)) = false)
    (he : starEach (e :: es) X.env = (false, eval e X.env) :: starEach es X.env) (hpl : (backTo p2 (starEach es X.env)).any (·.1) = false) : PS X (.Raise (some (.Call (.Name x p1) (e :: es) [] p2)) none pos) (TSo F (exm G (.raise c cs))) := by
  obtain ⟨fI, fd, ps, f, i0, i1, i2, i3, i4⟩ := xf.init
  refine (ps_raise hc ft.tk (pmk_oex (ds := []) (dvs := []) xf.oex i1 i2 i3 hr i4 .nil (passes_call ft.tk fun _ _ _ _ z => False.elim z) hg xf.mg ha hdb he hpl)).imp fun D σ H ⟨μ, ρ, φ, η, fr, lv, hh, g⟩ => ?_
  simp only [exm, exec] at g
  refine ⟨μ, ρ, φ, η, fr, lv, hh, (GoS.of (Y := YL F) ft hh g).imp fun vs H1 ⟨ds, s, μ1, h1, g1, y1, k1⟩ => ?_⟩
  by_cases hok : raiseOk c ds = true
  case neg => rw [if_neg hok] at k1; exact k1.elim
  rw [if_pos hok] at k1
  obtain ⟨d, rfl, hi⟩ := raiseOk_of hok
  obtain ⟨v, rfl, q1⟩ := rps1 y1
  refine ⟨by simp, fun a hn => ?_⟩
  refine ⟨a, v, rfl, upd_same, fun hkd => ?_, fun dx hdx hne => ⟨rfl, dx, [(f, v)], upd_same, ?_, ?_, ?_⟩⟩
  · obtain ⟨i, rfl, hb⟩ := hi hkd
    exact ⟨i, rp_int q1, log_lt' hb⟩
  · rw [upd_ne hne, upd_same]
  · rw [upd_ne hne] at hdx
    exact hdx
  · have hd1 : H1 dx = none := by rw [upd_ne hne] at hdx; exact hdx
    have e : upd (del (upd (upd (upd H1 a (exo a (F.z.exA c) none)) dx (exd dx [(f, v)])) a (exo a (F.z.exA c) (some dx))) a) dx (.xd [(f, v)]) = upd H1 dx (.xd [(f, v)]) := by
      funext b
      by_cases c1 : b = dx
      · rw [c1, upd_same, upd_same]
      · rw [upd_ne c1, upd_ne c1]
        by_cases c2 : b = a
        · rw [c2, del_same, hn]
        · rw [del_ne c2, upd_ne c2, upd_ne c1, upd_ne c2]
    rw [e]
    have nx := upd_new (o := HO.xd [(f, v)]) hd1
    have g2 : Grow fr.length μ1 (fr.length + s.length) H1 μ1 (fr.length + s.length) (upd H1 dx (.xd [(f, v)])) := Grow.same nx
    exact k1 dx σ _ μ1 (h1.grow ft.clo (h1.rel.same nx) g2) g2 ⟨[(f, v)], upd_same, i0.symm, Rps.one (Rp.grow g2 _ _ q1)⟩
/-! ### try -/
/-- the same frame, another wish about errors -/
def Fm.wi (F : Fm) (W : WX) : Fm := { F with W := W }
/-- the frame of an except suite -/
def Fm.hnd (F : Fm) (xs : Option (Nat × Addr)) (c : Nat) (dd : Addr) : Fm := { F with W := fun _ _ _ _ => False, xh := some (c, dd), calm := false, xs := xs }
theorem Here.wi {W : WX} (h : Here F σ H μ ρ φ η fr lv) : Here (F.wi W) σ H μ ρ φ η fr lv := ⟨h.rel, h.len, h.env, h.fns, h.exn, h.calm, h.nf, h.xsl⟩
theorem Here.unwi {W : WX} (h : Here (F.wi W) σ H μ ρ φ η fr lv) : Here F σ H μ ρ φ η fr lv := ⟨h.rel, h.len, h.env, h.fns, h.exn, h.calm, h.nf, h.xsl⟩
theorem fits_tr (ft : Fits X F) {W : WX} {pn : List (Addr × Obj)} {xe : Value → Shared → Prop} (tk : Takes (X.tr pn xe) W) : Fits (X.tr pn xe) (F.wi W) := ⟨ft.K, ft.w, ft.nd, trivial, ft.cl, ft.un, ft.gd, tk, ft.calm⟩
theorem fits_suite (ft : Fits X F) (a : Addr) (pn : List (Addr × Obj)) (xs : Option (Nat × Addr)) (c : Nat) (dd : Addr) : Fits (X.suite a pn) (F.hnd xs c dd) :=
  ⟨ft.K, ft.w, ft.nd, trivial, ft.cl, ft.un, ft.gd, fun u s' ⟨_, _, _, _, _, _, _, _, _, _, _, _, _, _, _, _, w⟩ => False.elim w, rfl⟩
/-- into a suite: the error's name holds it -/
theorem Here.hnd {i c : Nat} {v : List Sv.D} {dd a : Addr} (h : Here F σ H μ ρ φ η fr lv) (hi : SlotOk F i) (hl : i < ρ.length) (hv : ErrR F.z c μ (fr.length + lv.length) H v dd) : Here (F.hnd (some (i, a)) c dd) (σ.set i (some (.ref a))) H μ (ρ.set i none) φ (some (c, v)) fr lv := by
  refine ⟨h.rel, by rw [List.length_set, List.length_set]; exact h.len, fun j x e => ?_, fun j g e => ?_, fun c' v' e => ?_, (fun _ z => nomatch z), h.nf, fun j b e => ?_⟩
  · by_cases q : i = j
    · subst q
      rw [List.getElem?_set_self hl] at e
      cases e
    · rw [List.getElem?_set_ne q] at e
      obtain ⟨w, h1, h2⟩ := h.env j x e
      exact ⟨w, by rw [List.getElem?_set_ne q]; exact h1, h2⟩
  · obtain ⟨w, h1, h2⟩ := h.fns j g e
    have hj : j < F.nf := by rw [← h.nf]; exact (List.getElem?_eq_some_iff.mp e).1
    have hi1 := hi.1
    exact ⟨w, by show (σ.set i _)[F.np + j]? = _; rw [List.getElem?_set_ne (by omega)]; exact h1, h2⟩
  · cases e
    exact ⟨dd, rfl, hv⟩
  · have e : some (i, a) = some (j, b) := e
    cases e
    exact List.getElem?_set_self (by rw [h.len]; exact hl)
/-- into a suite without a name -/
theorem Here.hnd0 {c : Nat} {v : List Sv.D} {dd : Addr} (h : Here F σ H μ ρ φ η fr lv) (hv : ErrR F.z c μ (fr.length + lv.length) H v dd) : Here (F.hnd none c dd) σ H μ ρ φ (some (c, v)) fr lv :=
  ⟨h.rel, h.len, h.env, h.fns, fun c' v' e => by cases e; exact ⟨dd, rfl, hv⟩, fun _ z => (nomatch z), h.nf, fun j b e => nomatch e⟩
/-- out of a suite -/
theorem Here.unhnd {i : Nat} {xs : Option (Nat × Addr)} {c : Nat} {dd : Addr} {η2 : Option (Nat × List Sv.D)} {σ2 : L2.St} {H2 : Hp} {μ2 : Nat → Addr} {ρ2 : Sv.Env} {lv2 : Sto} (h0 : Here F σ H μ ρ φ η fr lv) (g : Grow fr.length μ (fr.length + lv.length) H μ2 (fr.length + lv2.length) H2)
    (h : Here (F.hnd xs c dd) σ2 H2 μ2 ρ2 φ η2 fr lv2) (hx : F.xs = none) (hi : SlotOk F i) : Here F (σ2.set i none) H2 μ2 (ρ2.set i none) φ η fr lv2 := by
  refine ⟨h.rel, by rw [List.length_set, List.length_set]; exact h.len, fun j x e => ?_, fun j g e => ?_, fun c' v' e => ?_, h0.calm, h.nf, fun j b e => by rw [hx] at e; cases e⟩
  · by_cases q : i = j
    · subst q
      by_cases hl : i < ρ2.length
      · rw [List.getElem?_set_self hl] at e
        cases e
      · rw [List.getElem?_eq_none (by simpa using hl)] at e
        cases e
    · rw [List.getElem?_set_ne q] at e
      obtain ⟨w, h1, h2⟩ := h.env j x e
      exact ⟨w, by rw [List.getElem?_set_ne q]; exact h1, h2⟩
  · obtain ⟨w, h1, h2⟩ := h.fns j g e
    have hj : j < F.nf := by rw [← show φ.length = F.nf from h.nf]; exact (List.getElem?_eq_some_iff.mp e).1
    have hi1 := hi.1
    have h1 : σ2[F.np + j]? = some (some w) := h1
    exact ⟨w, by rw [List.getElem?_set_ne (by omega)]; exact h1, h2⟩
  · obtain ⟨d, e1, e2⟩ := h0.exn c' v' e
    exact ⟨d, e1, e2.grow g⟩
theorem Here.unhnd0 {xs : Option (Nat × Addr)} {c : Nat} {dd : Addr} {η2 : Option (Nat × List Sv.D)} {σ2 : L2.St} {H2 : Hp} {μ2 : Nat → Addr} {ρ2 : Sv.Env} {lv2 : Sto} (h0 : Here F σ H μ ρ φ η fr lv) (g : Grow fr.length μ (fr.length + lv.length) H μ2 (fr.length + lv2.length) H2)
    (h : Here (F.hnd xs c dd) σ2 H2 μ2 ρ2 φ η2 fr lv2) (hx : F.xs = none) : Here F σ2 H2 μ2 ρ2 φ η fr lv2 :=
  ⟨h.rel, h.len, h.env, h.fns, fun c' v' e => by
    obtain ⟨d, e1, e2⟩ := h0.exn c' v' e
    exact ⟨d, e1, e2.grow g⟩, h0.calm, h.nf, fun j b e => by rw [hx] at e; cases e⟩
/-- what an except clause looks for -/
structure ExK (X : Cx) (Z : Zx) (G : Orc) : Prop where
  exm : ∀ c k, c ∈ G.exs → k ∈ G.exs → PySem.W.exmOne X.K (.ref (Z.exA c)) (.ref (Z.exA k)) = some (decide (k = c))
theorem GoS.wi {W : WX} {x : RS} (h : GoS F D H μ φ η fr lv x) (nx : ∀ c v ρ s, x ≠ .ex c v ρ s) : GoS (F.wi W) D H μ φ η fr lv x := by
  cases x with
  | ok ρ f s => exact fun σ' H' μ' h' g => h σ' H' μ' h'.unwi g
  | ex c v ρ s => exact absurd rfl (nx c v ρ s)
  | bad => exact h
/-- one clause, with a name -/
theorem sd_tryAs (ft : Fits X F) (ek : ExK X F.z G) (hxs : F.xs = none) (hs : X.stack = X.env :: X.outer) (hf : X.env.frame = some X.env.locals) {x n : Str} {i k : Nat} {body suite : List Stmt} {b₀ : Stmt} {np pos pos' : Pos} {cb cs : List S} (hi : X.N[i]? = some n) (hln : X.env.kindOf n = some .local) (hsl : SlotOk F i) (hk : k ∈ G.exs)
    (hc : Names X x (.ref (F.z.exA k))) (hb : ∀ (W : WX) (pn : List (Addr × Obj)) (xe : Value → Shared → Prop), Takes (X.tr pn xe) W → PassesOwn (model X.prog X.w) X.A X.env xe → PSs (X.tr pn xe) body (TSo (F.wi W) (exsm G cb)))
    (hsu : ∀ (a : Addr) (oe : Obj) (dd : Addr) (pn : List (Addr × Obj)), Zc (.ref (F.z.exA k)) (some dd) oe → (∃ vs, oe.data = .fields vs) → PSs (X.suite a ((a, oe) :: pn)) (b₀ :: suite) (TSo (F.hnd (some (i, a)) k dd) (exsm G cs))) :
    PS X (.Try body [.ExceptHandler (some (.Name x np)) (some n) (b₀ :: suite) pos'] [] [] pos) (TSo F (exm G (.tryx cb [(k, some i, cs)]))) := by
  refine (ps_try_as (ts := fun a cls d => fun D σ H => ∃ dd, cls = .ref (F.z.exA k) ∧ d = some dd ∧ TSo (F.hnd (some (i, a)) k dd) (exsm G cs) D σ H) hs hf ft.nd hi hln hc ft.tk hb (fun a oe cls d pn hz hd => ⟨fun pins s σ H D I ⟨dd, e1, e2, h⟩ => ?_⟩)).imp fun D σ H ⟨μ, ρ, φ, η, fr, lv, hh, g⟩ => ?_
  · subst e1
    subst e2
    exact (hsu a oe dd pn hz hd).run pins s σ H D I h
  · simp only [exm, exec] at g
    refine ⟨μ, ρ, φ, η, fr, lv, hh.wi, ?_⟩
    show GoS (F.wi _) D H μ φ η fr lv (execs G fr φ η cb ρ lv)
    cases e : execs G fr φ η cb ρ lv with
    | bad => rw [e] at g; exact g
    | ok ρ1 f s =>
      rw [e] at g
      exact GoS.wi g fun _ _ _ _ z => nomatch z
    | ex c v ρ1 s =>
      rw [e] at g
      intro d σ' H' μ' h' g' er
      have h' := h'.unwi
      have g := GoS.back g' g
      simp only [execH] at g
      by_cases hcx : G.exs.contains c = true
      case neg =>
        have : (!G.exs.contains c) = true := by simpa using hcx
        rw [if_pos this] at g
        exact g.elim
      have hcx' : ¬ (!G.exs.contains c) = true := by simpa using hcx
      rw [if_neg hcx'] at g
      refine ⟨decide (k = c), ek.exm c k (by simpa using hcx) hk, fun hb a hn => ?_, fun hb => ?_⟩
      · obtain rfl : k = c := of_decide_eq_true hb
        rw [if_pos rfl] at g
        by_cases hl : ρ1.length ≤ i
        · rw [if_pos hl] at g; exact g.elim
        rw [if_neg hl] at g
        refine ⟨d, rfl, rfl, μ', ρ1.set i none, φ, some (k, v), fr, s, h'.hnd hsl (by omega) er, ?_⟩
        show GoS _ _ H' μ' φ (some (k, v)) fr s (execs G fr φ (some (k, v)) cs (ρ1.set i none) s)
        cases e2 : execs G fr φ (some (k, v)) cs (ρ1.set i none) s with
        | bad => rw [e2] at g; exact g
        | ex _ _ _ _ => rw [e2] at g; exact g.elim
        | ok ρ2 f s2 =>
          rw [e2] at g
          intro σ3 H3 μ3 h3 g3
          have z := g (σ3.set i none) H3 μ3 (h'.unhnd g3 h3 hxs hsl) g3
          cases f with
          | nx => exact z
          | rt dv => exact z
          | bk => exact z
          | ct => exact z
      · have hne : ¬ k = c := of_decide_eq_false hb
        rw [if_neg hne] at g
        exact g d σ' H' μ' h' .refl er
/-! ### the field of the error in hand -/
theorem pd_exf {X0 : Cx} {a : Addr} {oe : Obj} {pn : List (Addr × Obj)} {i c : Nat} {dd : Addr} {n : Str} {e : Expr} {pos : Pos} (T : XfC X0.K (F.z.exA c)) (hno : PySem.W.findIn X0.K (.ref (F.z.exA c)) n = some none) (hn : F.z.exF c = [n])
    (hz : Zc (.ref (F.z.exA c)) (some dd) oe) (hd : ∃ vs, oe.data = .fields vs) (he : PE (X0.suite a ((a, oe) :: pn)) e (tVar i)) (hb : attributeBase e n X0.env (eval e X0.env) = eval e X0.env) :
    PE (X0.suite a ((a, oe) :: pn)) (.Attribute e n pos) (TEo (F.hnd (some (i, a)) c dd) (evm G .exf)) :=
  (pe_xf T hno hz hd he hb).imp fun σ H Q ⟨μ, ρ, φ, η, fr, lv, hh, g⟩ => by
    simp only [evm, ev] at g
    have hxs := hh.xsl i a rfl
    refine ⟨.ref a, hxs, rfl, rfl, ?_⟩
    cases η with
    | none => exact absurd rfl (hh.calm rfl)
    | some p =>
      obtain ⟨c', v⟩ := p
      obtain ⟨d, e1, fs, e2, e3, e4⟩ := hh.exn c' v rfl
      have e1 : some (c, dd) = some (c', d) := e1
      cases e1
      have e3 : fs.map (·.1) = F.z.exF c := e3
      rw [hn] at e3
      match fs, e3 with
      | [(m, w)], e3 =>
        simp only [List.map_cons, List.map_nil, List.cons.injEq, and_true] at e3
        subst e3
        match v, e4, g with
        | [], e4, _ => simp [Rps] at e4
        | [dv], e4, g =>
          obtain ⟨w', hw, q⟩ := rps1 e4
          cases hw
          refine ⟨dd, _, w, rfl, e2, by simp [List.lookup], ?_⟩
          exact Go.now (F := F.hnd (some (i, a)) c dd) (a := dv) g hh.rel q
        | _ :: _ :: _, e4, _ =>
          simp only [Rps, List.map_cons, List.map_nil] at e4
          obtain ⟨_, _, h1, _, _, _, h2, _⟩ := e4
          cases h1
          cases h2
end
end Sv
end -- Sem20
section -- Sem21
set_option Elab.async false
set_option linter.all false
set_option maxRecDepth 100000
set_option maxHeartbeats 2000000
set_option exponentiation.threshold 3000
/-! # f-strings -/
namespace Sv
open PySem PySem.Spec PyProof.Rows L2

theorem str_assoc (a b c : Str) : a ++ b ++ c = a ++ (b ++ c) := by
  obtain ⟨a⟩ := a
  obtain ⟨b⟩ := b
  obtain ⟨c⟩ := c
  show Str.mk (a ++ b ++ c) = Str.mk (a ++ (b ++ c))
  rw [Array.append_assoc]
theorem str_len (a b : Str) : (a ++ b).length = a.length + b.length := by
  obtain ⟨a⟩ := a
  obtain ⟨b⟩ := b
  exact Array.size_append
theorem str_nil (a : Str) : a ++ (⟨#[]⟩ : Str) = a := by
  obtain ⟨a⟩ := a
  show Str.mk (a ++ #[]) = _
  rw [Array.append_empty]
section
variable {X : Cx} {F : Fm} {G : Orc} {σ : L2.St} {H H' : Hp} {μ μ' : Nat → Addr} {fr lv lv' : Sto}
/-- {e} -/
theorem pd_fmt (ft : Fits X F) {e : Expr} {c : C} {pos : Pos} (he : PE X e (TEo F (evm G c))) : PE X (.FormattedValue e (-1) none pos) (TEo F (evm G (.fmt c))) :=
  (pe_fmt he).imp fun σ H Q ⟨μ, ρ, φ, η, fr, lv, hh, g⟩ => by
    simp only [evm, ev] at g
    refine (te_seq (ma := evm G c) ft hh g).mono fun x H1 ⟨d, s, μ1, h1, r1, k1⟩ => ?_
    cases e : strD d with
    | none => simp only [e] at k1; exact k1.elim
    | some z =>
      simp only [e] at k1
      split at k1
      case isFalse => exact k1.elim
      case isTrue hz =>
      have q := Go.now (F := F) (a := D.str _) k1 h1.rel (rp_sc.2.2.1 _)
      cases d with
      | int i =>
        simp only [strD] at e
        split at e
        · rename_i c
          cases e
          refine .inr ⟨i, rp_int r1, log_lt c, ?_⟩
          rw [← strI_eq] at q
          exact q
        · cases e
      | str y =>
        cases e
        exact .inl ⟨_, rp_str r1, by rw [sizeLine_eq]; unfold partMax at hz; omega, q⟩
      | _ => cases e
/-- the parts of an f-string -/
inductive PFs (X : Cx) (F : Fm) (G : Orc) : List Expr → List C → Prop where
  | nil : PFs X F G [] []
  | fmt {e : Expr} {c : C} {pos : Pos} {es : List Expr} {cs : List C} (h : PE X e (TEo F (evm G c))) (r : PFs X F G es cs) : PFs X F G (.FormattedValue e (-1) none pos :: es) (.fmt c :: cs)
  | txt {z : Str} {k : Nat} {pos : Pos} {es : List Expr} {cs : List C} (hz : z.length ≤ partMax) (r : PFs X F G es cs) : PFs X F G (.Constant (.str z) k pos :: es) (.con (.str z) :: cs)
def fstK (acc : Str) (ds : List Sv.D) (s : Sto) : R Sv.D := match strsOf ds with
  | some zs => .ok (.str (acc ++ catS zs)) s
  | none => .bad
theorem fst_cons {acc z : Str} {ds : List Sv.D} {s : Sto} : fstK acc (.str z :: ds) s = fstK (acc ++ z) ds s := by
  unfold fstK
  simp only [strsOf]
  cases strsOf ds with
  | none => rfl
  | some zs =>
    show R.ok (D.str (acc ++ (z ++ catS zs))) s = _
    rw [← str_assoc]
theorem bind_assoc {α β γ : Type} (x : R α) (f : α → Sto → R β) (g : β → Sto → R γ) : (x.bind f).bind g = x.bind fun a s => (f a s).bind g := by
  cases x <;> rfl
/-- the rest of the parts -/
def TJo (F : Fm) (G : Orc) (cs : List C) (acc : Str) (σ : L2.St) (H : Hp) (Q : VK) : Prop := ∃ μ ρ φ η fr lv, Here F σ H μ ρ φ η fr lv ∧ acc.length + cs.length * partMax ≤ 16 * partMax ∧ Go F (YV F) σ H μ fr lv ((evs G fr φ η cs ρ lv).bind fun ds s => fstK acc ds s) Q
def PartC (c : C) : Prop := (∃ a, c = .fmt a) ∨ ∃ z, c = .con (.str z) ∧ z.length ≤ partMax
theorem str_part {fr : Sto} {φ : List FV} {η : Option (Nat × List Sv.D)} {ρ : Sv.Env} {lv s : Sto} {c : C} {d : Sv.D} (h : PartC c) (e : ev G fr φ η c ρ lv = .ok d s) : ∃ z, d = .str z ∧ z.length ≤ partMax := by
  rcases h with ⟨a, rfl⟩ | ⟨z, rfl, hz⟩
  · simp only [ev] at e
    cases e1 : ev G fr φ η a ρ lv with
    | ok d1 s1 =>
      rw [e1] at e
      have e : (match strD d1 with
        | some z => if z.length ≤ partMax then R.ok (D.str z) s1 else .bad
        | none => .bad) = .ok d s := e
      cases e2 : strD d1 with
      | none => rw [e2] at e; cases e
      | some z =>
        rw [e2] at e
        simp only at e
        split at e
        · rename_i c
          cases e
          exact ⟨z, rfl, c⟩
        · cases e
    | ex c v s1 => rw [e1] at e; cases e
    | bad => rw [e1] at e; cases e
  · simp only [ev, R.ok.injEq] at e
    exact ⟨z, e.1.symm, hz⟩
theorem tj_cons (ft : Fits X F) {c : C} {cs : List C} {acc : Str} {Q : VK} (hp : PartC c) (h : TJo F G (c :: cs) acc σ H Q) :
    TEo F (evm G c) σ H fun x H1 => ∃ y : Str, x = .str y ∧ (acc ++ y).length ≤ sizeLine ∧ TJo F G cs (acc ++ y) σ H1 Q := by
  obtain ⟨μ, ρ, φ, η, fr, lv, hh, ha, g⟩ := h
  simp only [evs] at g
  rw [bind_assoc] at g
  refine ⟨μ, ρ, φ, η, fr, lv, hh, (Go.bind (Y := YV F) g).imp fun x H1 ⟨d, s, μ1, e1, r1, g1, y1, k1⟩ => ?_⟩
  obtain ⟨z, rfl, hz⟩ := str_part hp e1
  have hl : (acc ++ z).length + cs.length * partMax ≤ 16 * partMax := by
    rw [List.length_cons, Nat.add_mul, Nat.one_mul] at ha
    rw [str_len]
    omega
  refine ⟨z, rp_str y1, by rw [sizeLine_eq]; unfold partMax at hl; omega, μ1, ρ, φ, η, fr, s, hh.grow ft.clo r1 g1, hl, ?_⟩
  have : ((evs G fr φ η cs ρ s).bind fun ds s => R.ok (D.str z :: ds) s).bind (fun ds s => fstK acc ds s) = (evs G fr φ η cs ρ s).bind fun ds s => fstK (acc ++ z) ds s := by
    rw [bind_assoc]
    congr 1
    funext ds s
    exact fst_cons
  rw [this] at k1
  exact k1
theorem pfs_ts (ft : Fits X F) {es : List Expr} {cs : List C} (h : PFs X F G es cs) : ∃ ts, PJ X es ts ∧ ∀ acc σ H Q, TJo F G cs acc σ H Q → tJs ts acc σ H fun out H1 => Q (.str out) H1 := by
  induction h with
  | nil =>
    refine ⟨[], .nil, fun acc σ H Q ⟨μ, ρ, φ, η, fr, lv, hh, ha, g⟩ => ?_⟩
    have g : Go F (YV F) σ H μ fr lv (.ok (.str (acc ++ ⟨#[]⟩)) lv) Q := by simpa only [evs, R.bind, fstK, strsOf, catS] using g
    rw [str_nil] at g
    exact Go.now (F := F) (a := D.str acc) g hh.rel (rp_sc.2.2.1 _)
  | fmt he _ ih =>
    obtain ⟨ts, h1, h2⟩ := ih
    refine ⟨_ :: ts, .cons (pd_fmt ft he) h1, fun acc σ H Q q => ?_⟩
    exact (tj_cons ft (.inl ⟨_, rfl⟩) q).mono fun x H1 ⟨y, e, hl, q⟩ => ⟨y, e, hl, h2 _ _ _ _ q⟩
  | txt hz _ ih =>
    obtain ⟨ts, h1, h2⟩ := ih
    refine ⟨_ :: ts, .cons (pd_con (F := F) (G := G) (d := .str _) pe_str fun μ n H => rp_sc.2.2.1 _) h1, fun acc σ H Q q => ?_⟩
    exact (tj_cons ft (.inr ⟨_, rfl, hz⟩) q).mono fun x H1 ⟨y, e, hl, q⟩ => ⟨y, e, hl, h2 _ _ _ _ q⟩
theorem pd_fst (ft : Fits X F) {v1 v2 : Expr} {rest : List Expr} {cs : List C} {pos : Pos} (h : PFs X F G (v1 :: v2 :: rest) cs) : PE X (.JoinedStr (v1 :: v2 :: rest) pos) (TEo F (evm G (.fst cs))) := by
  obtain ⟨ts, h1, h2⟩ := pfs_ts ft h
  refine (pe_joined h1).imp fun σ H Q ⟨μ, ρ, φ, η, fr, lv, hh, g⟩ => h2 ⟨#[]⟩ σ H Q ?_
  simp only [evm, ev] at g
  split at g
  · rename_i c
    refine ⟨μ, ρ, φ, η, fr, lv, hh, ?_, ?_⟩
    · have := Nat.mul_le_mul_right partMax c
      show 0 + _ ≤ _
      omega
    · have e : ∀ ds s, fstK ⟨#[]⟩ ds s = (match strsOf ds with
        | some zs => .ok (.str (catS zs)) s
        | none => .bad) := fun ds s => by
        unfold fstK
        cases strsOf ds with
        | none => rfl
        | some zs =>
          have : (⟨#[]⟩ : Str) ++ catS zs = catS zs := by
            obtain ⟨a⟩ := catS zs
            show Str.mk (#[] ++ a) = _
            rw [Array.empty_append]
          show R.ok (D.str (⟨#[]⟩ ++ catS zs)) s = _
          rw [this]
      simp only [e]
      exact g
  · exact g.elim
theorem pd_fst1 (ft : Fits X F) {e : Expr} {c : C} {p pos : Pos} (he : PE X e (TEo F (evm G c))) : PE X (.JoinedStr [.FormattedValue e (-1) none p] pos) (TEo F (evm G (.fst [.fmt c]))) :=
  (pe_joined1 (pd_fmt ft he)).imp fun σ H Q ⟨μ, ρ, φ, η, fr, lv, hh, g⟩ => by
    refine ⟨μ, ρ, φ, η, fr, lv, hh, ?_⟩
    show Go F (YV F) σ H μ fr lv (ev G fr φ η (.fmt c) ρ lv) Q
    simp only [evm] at g
    cases e1 : ev G fr φ η (.fmt c) ρ lv with
    | bad => simp only [ev, evs, e1] at g; simp only [ev] at e1; rw [e1] at g; exact g
    | ex k v s => simp only [ev, evs] at g; simp only [ev] at e1; rw [e1] at g; exact g
    | ok d s =>
      obtain ⟨z, rfl, _⟩ := str_part (.inl ⟨_, rfl⟩) e1
      simp only [ev, evs] at g
      simp only [ev] at e1
      rw [e1] at g
      have g : Go F (YV F) σ H μ fr lv (.ok (.str (z ++ ⟨#[]⟩)) s) Q := g
      rw [str_nil] at g
      exact g
end
end Sv
end -- Sem21
section -- Sem22
set_option Elab.async false
set_option linter.all false
set_option maxRecDepth 100000
set_option maxHeartbeats 2000000
/-! # A def as a whole -/
namespace Sv
open PySem PySem.Spec PyProof.Rows L2

section
variable {F : Fm} {G : Orc} {σ : L2.St} {H H' : Hp} {μ μ' : Nat → Addr} {fr lv lv' : Sto} {Z : Zx}
/-- what may not be written may be told as such -/
theorem ObjR.unw {n : Nat} {wr : Bool} {a : Addr} : ∀ {o : O}, ObjR Z μ n H wr a o → ObjR Z μ n H false a o
  | .lst xs, h => by
    obtain ⟨vs, h1, h2⟩ := h
    refine ⟨vs, h1, ?_⟩
    rw [if_neg Bool.false_ne_true]
    cases wr with
    | true => exact .inl h2
    | false => exact h2
  | .dct kvs lk, h => by
    obtain ⟨h1, h2, h3, es, h4, h5⟩ := h
    refine ⟨h1, h2, h3, es, h4, ?_⟩
    rw [if_neg (fun z => by cases z.1)]
    split at h5
    · exact .inl h5
    · exact h5
  | .ins c fs, h => h
/-- all that is there is frozen -/
theorem Rel.quiet (r : Rel Z μ H fr lv) : Rel Z μ H (fr ++ lv) [] := by
  have hlen : (fr ++ lv).length + ([] : Sto).length = fr.length + lv.length := by simp
  refine ⟨fun i j hi hj e => r.inj i j (by rw [← hlen]; exact hi) (by rw [← hlen]; exact hj) e, fun l o e => ?_⟩
  have e2 : look fr lv l = some o := by
    unfold look at e ⊢
    simpa using e
  rw [hlen]
  have hl := look_lt e2
  have : decide ((fr ++ lv).length ≤ l) = false := decide_eq_false (by simp; omega)
  rw [this]
  exact (r.obj l o e2).unw
mutual
theorem Rp.oldp {n n' : Nat} (g : ∀ l, l < n → μ' l = μ l) : ∀ (d : D) (v : V), D.old n d = true → Rp Z μ' n' H d v → Rp Z μ n H d v
  | .non, _, _, h => by simpa only [Rp] using h
  | .bl _, _, _, h => by simpa only [Rp] using h
  | .int _, _, _, h => by simpa only [Rp] using h
  | .str _, _, _, h => by simpa only [Rp] using h
  | .tup xs, v, o, h => by
    simp only [Rp] at h ⊢
    simp only [D.old] at o
    obtain ⟨a, vs, rfl, h1, h2⟩ := h
    exact ⟨a, vs, rfl, h1, Rps.oldp g xs vs o h2⟩
  | .ref l, v, o, h => by
    simp only [Rp] at h ⊢
    simp only [D.old, decide_eq_true_eq] at o
    exact ⟨o, by rw [← g l o]; exact h.2⟩
theorem Rps.oldp {n n' : Nat} (g : ∀ l, l < n → μ' l = μ l) : ∀ (ds : List D) (vs : List V), D.olds n ds = true → Rps Z μ' n' H ds vs → Rps Z μ n H ds vs
  | [], _, _, h => by simpa only [Rps] using h
  | d :: ds, vs, o, h => by
    simp only [Rps] at h ⊢
    simp only [D.olds, Bool.and_eq_true] at o
    obtain ⟨v, r, rfl, h1, h2⟩ := h
    exact ⟨v, r, rfl, Rp.oldp g d v o.1 h1, Rps.oldp g ds r o.2 h2⟩
end
/-- what is told of made defs stays in the frames that they are handed to -/
def CloKeep (Z : Zx) : Prop := ∀ (H H' : Hp) (s s' : Shared) (outer : List PySem.Env) (env : PySem.Env) (id : Nat) (a : Addr) (vs : List V), (∀ L, env.frame = some L → s.heap.objs.size ≤ L) → Un (frs outer) [] H H' s.heap s'.heap →
  Z.cloS s H outer id a vs → Z.cloS s' H' (env :: outer) id a vs
/-- the frame of a def's body -/
def Fm.fn (Z : Zx) (d : Fn) (s : Shared) (H : Hp) (outer : List PySem.Env) (E : XK) : Fm := ⟨Z, d.ps, d.fs, fun cls dd _ H => E cls dd H, none, true, Z.cloS s H outer, none⟩
theorem begin_len {d : Fn} {ds : List D} (h : ds.length ≤ d.slots) : (begin d ds).length = d.slots := by
  unfold begin
  rw [List.length_append, List.length_map, List.length_replicate]
  omega
theorem paired_get' {α β : Type} {R : α → β → Prop} {l₁ : List α} {l₂ : List β} (h : Paired R l₁ l₂) : ∀ {i : Nat} {a : α}, l₁[i]? = some a → ∃ b, l₂[i]? = some b ∧ R a b := fun e => pairedGet h e
/-- the frame at the start -/
theorem here_start {d : Fn} {N : List Str} {ds : List D} {φ : List FV} {ws fs : List V} {s : Shared} {H0 : Hp} {outer : List PySem.Env} {E : XK} (hN : d.slots = N.length) (hps : d.ps + d.fs ≤ N.length) (r : Rel Z μ H fr lv) (h1 : Rps Z μ (fr.length + lv.length) H ds ws) (h2 : FnTs (Z.cloS s H0 outer) Z μ (fr.length + lv.length) H φ fs)
    (ha : ds.length = d.ps) (hf : φ.length = d.fs) : Here (Fm.fn Z d s H0 outer E) (L2.start N (ws ++ fs)) H μ (begin d ds) φ none fr lv := by
  have hw := h1.length
  have hfs : φ.length = fs.length := Paired.length h2
  refine ⟨r, ?_, fun i x e => ?_, fun j g e => ?_, (fun c v e => nomatch e), (fun e => nomatch e), hf, fun i a e => nomatch e⟩
  · rw [begin_len (by omega)]
    unfold L2.start
    rw [List.length_append, List.length_map, List.length_replicate, List.length_append]
    omega
  · unfold begin at e
    by_cases c : i < ds.length
    · rw [List.getElem?_append_left (by simpa using c), List.getElem?_map] at e
      obtain ⟨y, hy, ey⟩ := Option.map_eq_some_iff.mp e
      cases ey
      obtain ⟨v, hv, q⟩ := h1.get hy
      refine ⟨v, ?_, q⟩
      unfold L2.start
      rw [List.getElem?_append_left (by simp; omega), List.getElem?_map, List.getElem?_append_left (by omega), hv]
      rfl
    · rw [List.getElem?_append_right (by simpa using c), List.getElem?_replicate] at e
      split at e <;> cases e
  · obtain ⟨v, hv, q⟩ := paired_get' h2 e
    refine ⟨v, ?_, q⟩
    have hj := (List.getElem?_eq_some_iff.mp hv).1
    show (L2.start N (ws ++ fs))[d.ps + j]? = _
    unfold L2.start
    rw [List.getElem?_append_left (by simp; omega), List.getElem?_map, List.getElem?_append_right (by omega)]
    have : d.ps + j - ws.length = j := by omega
    rw [this, hv]
    rfl
/-- what a def's body leaves -/
theorem goS_fn {d : Fn} {s : Shared} {H0 : Hp} {outer : List PySem.Env} {E : XK} {Q : VK} {φ : List FV} {x : RS} (h : GoC Z H μ fr lv (endR x) Q E) : GoS (Fm.fn Z d s H0 outer E) { nx := fun _ H' => Q .non H', rt := Q } H μ φ none fr lv x := by
  cases x with
  | bad => exact h
  | ex c v ρ s => exact fun dd σ' H' μ' h' g er => h dd H' μ' h'.rel g er
  | ok ρ f s =>
    cases f with
    | nx => exact fun σ' H' μ' h' g => h _ H' μ' h'.rel g rp_sc.2.2.2
    | rt dv => exact fun σ' H' μ' h' g v hv => h v H' μ' h'.rel g hv
    | bk => exact h.elim
    | ct => exact h.elim
theorem goS_quiet {d : Fn} {s : Shared} {H0 : Hp} {outer : List PySem.Env} {E : XK} {Q : VK} {φ : List FV} {x : RS} (r : Rel Z μ H fr lv) (h : GoC Z H μ fr lv (endQ (fr.length + lv.length) lv x) Q E) : GoS (Fm.fn Z d s H0 outer E) { nx := fun _ H' => Q .non H', rt := Q } H μ φ none (fr ++ lv) [] x := by
  have hlen : (fr ++ lv).length + ([] : Sto).length = fr.length + lv.length := by simp
  have hl2 : (fr ++ lv).length = fr.length + lv.length := by simp
  -- back in the caller's store
  have back : ∀ {μ' : Nat → Addr} {H' : Hp} {n' : Nat}, Grow (fr ++ lv).length μ ((fr ++ lv).length + ([] : Sto).length) H μ' n' H' → Rel Z μ H' fr lv ∧ Grow fr.length μ (fr.length + lv.length) H μ (fr.length + lv.length) H' ∧ ∀ l, l < fr.length + lv.length → μ' l = μ l := fun {μ' H' n'} g => by
    rw [hlen] at g
    rw [hl2] at g
    exact ⟨r.old g, ⟨Nat.le_refl _, fun _ _ => rfl, g.tups, g.frzs, g.xds, fun l hl u e => g.old l (by omega) u e⟩, g.mu⟩
  cases x with
  | bad => exact h
  | ex c v ρ s =>
    intro dd σ' H' μ' h' g er
    obtain ⟨r', g', mu⟩ := back g
    have h : GoC Z H μ fr lv (if D.olds (fr.length + lv.length) v then .ex c v lv else .bad) Q E := h
    split at h
    · rename_i ho
      obtain ⟨fs, e1, e2, e3⟩ := er
      exact h dd H' μ r' g' ⟨fs, e1, e2, Rps.oldp mu _ _ ho e3⟩
    · exact h.elim
  | ok ρ f s =>
    cases f with
    | nx =>
      intro σ' H' μ' h' g
      obtain ⟨r', g', mu⟩ := back g
      exact h _ H' μ r' g' rp_sc.2.2.2
    | rt dv =>
      intro σ' H' μ' h' g v hv
      obtain ⟨r', g', mu⟩ := back g
      have h : GoC Z H μ fr lv (if D.old (fr.length + lv.length) dv then .ok dv lv else .bad) Q E := h
      split at h
      · rename_i ho
        exact h v H' μ r' g' (Rp.oldp mu _ _ ho hv)
      · exact h.elim
    | bk => exact h.elim
    | ct => exact h.elim
/-- a def keeps its promise -/
theorem fnS_of {P : Program} {w : World} {K : PySem.W.Frag} {mg : Str → Option Value} {base : Heap} {k : Nat} {f : Addr} {name qual : Str} {params : Arguments} {body : List Stmt} {scope : Scope} {dV kV doc pm cdv ct oc : Value} {an od : Option Addr}
    {osl : Array (Option Value)} {N ps : List Str} {d : Fn} {call : List D → List FV → Sto → Sto → R D} (lk : K.lookup f = some ⟨oc, od, .func (PySem.W.fnOf name qual params body scope dV kV doc pm an cdv ct), osl⟩) (hcd : PySem.W.codeIn K cdv qual = true) (S : FnScope N ps scope)
    (hK : K = Z.K) (hw : w = Z.w) (ck : CloKeep Z) (hN : d.slots = N.length) (hps : ps.length = d.ps + d.fs) (hcall : ∀ ds φ fr lv, call ds φ fr lv = runFn G d ds φ fr lv ∨ call ds φ fr lv = .bad)
    (hbody : ∀ (A : Around) (outer : List PySem.Env) (s : Shared) (H : Hp) (E : XK), Room k (A.deeper (envOfC qual scope s.heap.objs.size f cdv)) → Fits (cxOf (CX P w) P w K mg base N qual scope f cdv A outer s H E) (Fm.fn Z d s H outer E) →
      PSs (cxOf (CX P w) P w K mg base N qual scope f cdv A outer s H E) body (TSo (Fm.fn Z d s H outer E) (exsm G d.body))) :
    FnS P w K mg base Z (k + 1) f (PySem.W.fnOf name qual params body scope dV kV doc pm an cdv ct) ps call := by
  have len : ∀ clo vs H Q E, spI Z call clo vs H Q E → vs.length = ps.length := fun clo vs H Q E ⟨μ, ds, φ, ws, fs, fr, lv, e, r, h1, h2, g⟩ => by
    rcases hcall ds φ fr lv with hc | hc
    · rw [hc] at g
      unfold runFn at g
      split at g
      · rename_i c
        rw [e, List.length_append, ← h1.length, ← (Paired.length h2 : φ.length = fs.length), c.1, c.2, hps]
      · exact g.elim
    · rw [hc] at g
      exact g.elim
  refine ⟨len, fun A outer s H args us vs Q E hr hg e0 hb r hsp => ?_⟩
  refine LamX.run_ofS lk hcd S hr e0 hb r (len _ _ _ _ _ hsp) fun hrm => ?_
  have ft : Fits (cxOf (CX P w) P w K mg base N qual scope f cdv A outer s H E) (Fm.fn Z d s H outer E) := by
    refine ⟨hK, hw, S.nd, trivial, fun H' s' id a vs un h => ?_, ?_, hg, takes_of rfl rfl rfl rfl, rfl⟩
    · exact ck H H' s s' outer _ id a vs (fun L e => by
        have e : some s.heap.objs.size = some L := e
        cases e
        exact Nat.le_refl _) un h
    · have := hrm.un
      show (A.deeper _).units + 200 < cLine
      omega
  refine ⟨_, hbody A outer s H E hrm ft, ?_⟩
  obtain ⟨μ, ds, φ, ws, fs, fr, lv, rfl, rl, h1, h2, g⟩ := hsp
  rcases hcall ds φ fr lv with hc | hc
  case inr => rw [hc] at g; exact g.elim
  rw [hc] at g
  unfold runFn at g
  split at g
  case isFalse => exact g.elim
  case isTrue c =>
  have hpl : d.ps + d.fs ≤ N.length := by
    have q := congrArg List.length S.pre
    rw [List.length_take] at q
    omega
  split at g
  · have h1' : Rps Z μ ((fr ++ lv).length + ([] : Sto).length) H ds ws := by simpa using h1
    have h2' : FnTs (Z.cloS s H outer) Z μ ((fr ++ lv).length + ([] : Sto).length) H φ fs := by simpa using h2
    exact ⟨μ, begin d ds, φ, none, fr ++ lv, [], here_start hN hpl rl.quiet h1' h2' c.1 c.2, goS_quiet rl g⟩
  · exact ⟨μ, begin d ds, φ, none, fr, lv, here_start hN hpl rl h1 h2 c.1 c.2, goS_fn g⟩
end
end Sv
end -- Sem22
section -- Sem23
set_option Elab.async false
set_option linter.all false
set_option maxRecDepth 100000
set_option maxHeartbeats 2000000
/-! # Dicts in loops -/
namespace Sv
open PySem PySem.Spec PyProof.Rows L2

section
variable {X : Cx} {F : Fm} {G : Orc} {σ : L2.St} {H H' H1 : Hp} {μ μ' : Nat → Addr} {fr lv lv' : Sto}
/-- entries: their keys, their values -/
def EnV (es : Array DictEntry) (ks ws : List V) : Prop := ks.length = es.size ∧ ws.length = es.size ∧ ∀ i (h : i < es.size), (∃ k, ks[i]? = some k ∧ RelV k es[i].key) ∧ ∃ w, ws[i]? = some w ∧ RelV w es[i].val
/-- the keys of the locked dict at d -/
def Itx (d : Addr) (od : Obj) (es : Array DictEntry) (ks : List V) : It :=
  ⟨fun i H => H d = some (.frz od (dictO es d)) ∧ i < es.size, fun i H x H' => H' = H ∧ ks[i]? = some x, fun i H => H d = some (.frz od (dictO es d)) ∧ es.size ≤ i⟩
/-- its entries, each a new tuple -/
def Itp (d : Addr) (od : Obj) (es : Array DictEntry) (ks ws : List V) : It :=
  ⟨fun i H => H d = some (.frz od (dictO es d)) ∧ i < es.size, fun i H x H' => ∃ T k w, ks[i]? = some k ∧ ws[i]? = some w ∧ x = .ref T ∧ H T = none ∧ H' = upd H T (.tup [k, w]), fun i H => H d = some (.frz od (dictO es d)) ∧ es.size ≤ i⟩
theorem raw_of {pins : List (Addr × Obj)} {s : Shared} {d : Addr} {od : Obj} {es : Array DictEntry} {ep : Nat} (I : Inv X pins σ H s) (hod : od = ({ cls := .type "dict", data := .dict es ep } : Obj)) (h : H d = some (.frz od (dictO es d))) : s.heap.DictRaw d es ep := by
  have q : ObjOk X.prog X.w H s.heap d (.frz od (dictO es d)) := I.hok d _ h
  obtain ⟨e, _⟩ := q
  exact ⟨od, e, by rw [hod]; exact ⟨rfl, rfl, rfl⟩, by rw [hod]⟩
theorem turn_keysX {P : Program} {w : World} {K : PySem.W.Frag} {tg : Expr} {d : Addr} {od : Obj} {es : Array DictEntry} {ep : Nat} {ks ws : List V} (it : Addr) (hod : od = ({ cls := .type "dict", data := .dict es ep } : Obj)) (hv : EnV es ks ws) :
    Turn P w K tg (Itx d od es ks) [it] it (fun i h => h.IsKeyIter it d i es.size ep) where
  mem := by simp
  obj := fun i h st b hb => by
    obtain rfl : b = it := by simpa using hb
    obtain ⟨oi, e, c, dd⟩ := st
    exact ⟨oi, e, fun v z => by rw [dd] at z; cases z⟩
  keep := fun i h h' st k => st.at fun oi e => k it (by simp) oi e
  item := by
    intro X hP hw hK hc i pins s σ H E I hf st hg
    subst hP hw hK
    obtain ⟨hd, hi⟩ := hg
    obtain ⟨f0, f1, f2, f3, f4, f5⟩ := hf it (by simp)
    refine wpAny_pyNext_keys_item_raw st (raw_of I hod hd) hi fun h' st' sb => ?_
    have I1 : Inv X pins σ H { s with heap := h' } := I.turned (t' := s.toks) (fun b ob hb e => (sb.2 b hb).trans e) f0 f1 f3 f4 f5
    obtain ⟨oi, e, c, dd⟩ := id st'
    obtain ⟨⟨k, hk, rk⟩, _⟩ := hv.2.2 i hi
    exact ⟨_, rfl, L2.go_of (s := { s with heap := h' }) e c dd (by decide) ⟨k, H, I1, rk, ⟨rfl, hk⟩, st', fun b hb => (hf b hb).1⟩⟩
  done := by
    intro X hP hw hK hc i pins s σ H E I hf st hg
    subst hP hw hK
    obtain ⟨hd, hi⟩ := hg
    obtain ⟨f0, f1, f2, f3, f4, f5⟩ := hf it (by simp)
    exact wpAny_pyNext_keys_end_raw (I.ok.hd hc) st (raw_of I hod hd) hi fun h' eb => ⟨rfl, I.turned (t' := s.toks) (fun b ob hb e => eb b ob hb e) f0 f1 f3 f4 f5⟩
  self := fun A i s Q E st h => wpAny_pyIter_keyiter st h
theorem turn_itemsX {P : Program} {w : World} {K : PySem.W.Frag} {elts : List Expr} {kk : Nat} {tpos : Pos} {d : Addr} {od : Obj} {es : Array DictEntry} {ep : Nat} {ks ws : List V} (it : Addr) (hod : od = ({ cls := .type "dict", data := .dict es ep } : Obj)) (hv : EnV es ks ws) :
    Turn P w K (.Tuple elts kk tpos) (Itp d od es ks ws) [it] it (fun i h => ∃ ok ov, IsItemIter h it d i es.size ep ok ov) where
  mem := by simp
  obj := fun i h st b hb => by
    obtain rfl : b = it := by simpa using hb
    obtain ⟨ok, ov, e⟩ := st
    exact ⟨_, e, fun v z => nomatch z⟩
  keep := fun i h h' st k => let ⟨ok, ov, e⟩ := st; ⟨ok, ov, k it (by simp) _ e⟩
  item := by
    intro X hP hw hK hc i pins s σ H E I hf st hg
    subst hP hw hK
    obtain ⟨hd, hi⟩ := hg
    obtain ⟨⟨k, hk, rk⟩, w, hw, rw'⟩ := hv.2.2 i hi
    obtain ⟨ok, ov, he⟩ := st
    have hlt : it < s.heap.objs.size := Heap.lt_size he
    refine wpAny_pyNext_items_item_raw he (raw_of I hod hd) hi fun h' ho hT hz hkp => ?_
    refine ⟨_, rfl, wpAny_letOwnedTupleGo_items (s := { s with heap := h' }) ho fun h'' he' sb => ?_⟩
    have hT2 : h''.get? s.heap.objs.size = some { cls := .type "tuple", data := .seq #[es[i].key, es[i].val] } := (sb.2 _ (Nat.ne_of_gt hlt)).trans hT
    have new : ObjOk X.prog X.w (upd H s.heap.objs.size (.tup [k, w])) h'' s.heap.objs.size (.tup [k, w]) :=
      ⟨by show 2 ≤ sizeLine; decide, [es[i].key, es[i].val], .cons rk (.cons rw' .nil), ⟨_, hT2, rfl, _, rfl⟩⟩
    have I1 : Inv X pins σ (upd H s.heap.objs.size (.tup [k, w])) { s with heap := h'' } :=
      I.turnedNew (t' := s.toks) (ch := [it]) (fun b ob hb e => (sb.2 b (by simpa using hb)).trans (hkp b ob (by simpa using hb) e)) hf (Nat.le_refl _) new
    refine ⟨.ref s.heap.objs.size, _, I1, rfl, ⟨_, k, w, hk, hw, rfl, I.hok.fresh (Nat.le_refl _), rfl⟩, ⟨_, _, he'⟩, fun b hb => ?_⟩
    obtain rfl : b = it := by simpa using hb
    rw [upd_ne (Nat.ne_of_lt hlt)]
    exact (hf b (by simp)).1
  done := by
    intro X hP hw hK hc i pins s σ H E I hf st hg
    subst hP hw hK
    obtain ⟨hd, hi⟩ := hg
    obtain ⟨f0, f1, f2, f3, f4, f5⟩ := hf it (by simp)
    obtain ⟨ok, ov, he⟩ := st
    exact wpAny_pyNext_items_end_raw (I.ok.hd hc) he (raw_of I hod hd) hi fun h' eb => ⟨rfl, I.turned (t' := s.toks) (fun b ob hb e => eb b ob hb e) f0 f1 f3 f4 f5⟩
  self := fun A i s Q E st h => let ⟨_, _, e⟩ := st; PySem.W.kcp_self e h
/-- a told dict, to be walked: it is locked, if it is not so already -/
theorem dict_walk (ft : Fits X F) {pins : List (Addr × Obj)} {s : Shared} (I : Inv X pins σ H s) (r : Rel F.z μ H fr lv) {l : Nat} {kvs : List (Sv.D × Sv.D)} {lk : Bool} (e : look fr lv l = some (.dct kvs lk)) :
    ∃ es ep ks ws od HL, (μ l == sysModules) = false ∧ od = ({ cls := .type "dict", data := .dict es ep } : Obj) ∧ s.heap.get? (μ l) = some od ∧ EnV es ks ws ∧ Inv X pins σ HL s ∧ Lk X H HL μ fr lv (.dict l kvs) ∧ HL (μ l) = some (.frz od (dictO es (μ l))) ∧
      Rps F.z μ (fr.length + lv.length) H (kvs.map (·.1)) ks ∧ Rps F.z μ (fr.length + lv.length) H (kvs.map (·.2)) ws ∧ es.size = kvs.length := by
  obtain ⟨xs, h1, h2, h3, h4, h5, m⟩ := dictX ft I r e
  obtain ⟨ep, ho⟩ := m.at_
  have vals : ∃ ks ws, Rps F.z μ (fr.length + lv.length) H (kvs.map (·.1)) ks ∧ Rps F.z μ (fr.length + lv.length) H (kvs.map (·.2)) ws ∧ Vals ks (xs.map fun x => x.2.1) ∧ Vals ws (xs.map fun x => x.2.2) := by
    clear h2 h3 h5 m ho e
    induction h4 with
    | nil => exact ⟨[], [], by simp [Rps], by simp [Rps], .nil, .nil⟩
    | cons q _ ih =>
      obtain ⟨ks, ws, a, b, c, d⟩ := ih
      obtain ⟨_, _, ⟨v, q1, q2⟩, u, q3, q4⟩ := q
      exact ⟨v :: ks, u :: ws, by simp only [List.map_cons, Rps]; exact ⟨v, ks, rfl, q2, a⟩, by simp only [List.map_cons, Rps]; exact ⟨u, ws, rfl, q4, b⟩, .cons q1 c, .cons q3 d⟩
  obtain ⟨ks, ws, k1, k2, k3, k4⟩ := vals
  have hsz : ((xs.map (entO X.w)).toArray).size = xs.length := by simp
  have hlen : xs.length = kvs.length := (Paired.length h4).symm
  have hv : EnV (xs.map (entO X.w)).toArray ks ws := by
    refine ⟨by rw [hsz, ← k1.length, List.length_map, hlen], by rw [hsz, ← k2.length, List.length_map, hlen], fun i hi => ?_⟩
    have hi' : i < xs.length := by simpa using hi
    have e1 : ((xs.map (entO X.w)).toArray)[i] = entO X.w xs[i] := by simp
    have hk : i < ks.length := by rw [← k1.length, List.length_map, ← hlen]; exact hi'
    have hw : i < ws.length := by rw [← k2.length, List.length_map, ← hlen]; exact hi'
    obtain ⟨u1, a1, a2⟩ := k3.get (List.getElem?_eq_getElem hk)
    obtain ⟨u2, b1, b2⟩ := k4.get (List.getElem?_eq_getElem hw)
    rw [List.getElem?_map, List.getElem?_eq_getElem hi'] at a1 b1
    cases a1
    cases b1
    rw [e1]
    exact ⟨⟨_, List.getElem?_eq_getElem hk, a2⟩, _, List.getElem?_eq_getElem hw, b2⟩
  rcases h5 with h5 | ⟨o, h5⟩
  · obtain ⟨od, I2⟩ := I.lock h5 trivial
    have q : ObjOk X.prog X.w (upd H (μ l) (.frz od (dictO (xs.map (entO X.w)).toArray (μ l)))) s.heap (μ l) (.frz od (dictO (xs.map (entO X.w)).toArray (μ l))) := I2.hok _ _ upd_same
    obtain ⟨q1, _⟩ := q
    have eo : od = ({ cls := .type "dict", data := .dict (xs.map (entO X.w)).toArray ep } : Obj) := by
      rw [ho] at q1
      exact (Option.some.inj q1).symm
    exact ⟨_, ep, ks, ws, od, _, h1, eo, q1, hv, I2, ⟨lk, od, _, e, upd_same, .inr ⟨h5, I.nofrz h5 trivial, rfl⟩⟩, upd_same, k1, k2, by rw [hsz, hlen]⟩
  · have q : ObjOk X.prog X.w H s.heap (μ l) (.frz o (dictO (xs.map (entO X.w)).toArray (μ l))) := I.hok _ _ h5
    obtain ⟨q1, _⟩ := q
    have eo : o = ({ cls := .type "dict", data := .dict (xs.map (entO X.w)).toArray ep } : Obj) := by
      rw [ho] at q1
      exact (Option.some.inj q1).symm
    exact ⟨_, ep, ks, ws, o, H, h1, eo, q1, hv, I, ⟨lk, o, _, e, h5, .inl rfl⟩, h5, k1, k2, by rw [hsz, hlen]⟩
theorem src_keys {HL : Hp} {l : Nat} {kvs : List (Sv.D × Sv.D)} {od : Obj} {es : Array DictEntry} {ks : List V} (g0 : Gr0 F.z H HL) (hl : HL (μ l) = some (.frz od (dictO es (μ l)))) (hk : Rps F.z μ (fr.length + lv.length) H (kvs.map (·.1)) ks) (hs : es.size = kvs.length) :
    Src F HL μ fr lv (kvs.map (·.1)) (.dict l kvs) (Itx (μ l) od es ks) := by
  intro i μ2 lv2 H2 r2 g2 st
  have hf := g2.frzs _ _ _ hl
  have k2 := Rps.grow g2 _ _ (Rps.gr0 g0 _ _ hk)
  refine ⟨fun d hd => ⟨⟨hf, ?_⟩, fun x H' ⟨e, hx⟩ => ?_⟩, fun h => ⟨hf, by rw [hs]; simpa using h⟩⟩
  · have := (List.getElem?_eq_some_iff.mp hd).1
    rw [hs]
    simpa using this
  · subst e
    obtain ⟨v, a, b⟩ := k2.get hd
    rw [hx] at a
    cases a
    exact ⟨fun _ _ h => h, b⟩
theorem src_items {HL : Hp} {l : Nat} {kvs : List (Sv.D × Sv.D)} {od : Obj} {es : Array DictEntry} {ks ws : List V} (g0 : Gr0 F.z H HL) (hl : HL (μ l) = some (.frz od (dictO es (μ l)))) (hk : Rps F.z μ (fr.length + lv.length) H (kvs.map (·.1)) ks) (hw : Rps F.z μ (fr.length + lv.length) H (kvs.map (·.2)) ws) (hs : es.size = kvs.length) :
    Src F HL μ fr lv (kvs.map fun p => .tup [p.1, p.2]) (.dict l kvs) (Itp (μ l) od es ks ws) := by
  intro i μ2 lv2 H2 r2 g2 st
  have hf := g2.frzs _ _ _ hl
  have k2 := Rps.grow g2 _ _ (Rps.gr0 g0 _ _ hk)
  have w2 := Rps.grow g2 _ _ (Rps.gr0 g0 _ _ hw)
  refine ⟨fun d hd => ⟨⟨hf, ?_⟩, fun x H' ⟨T, k, w, e1, e2, ex, hT, e⟩ => ?_⟩, fun h => ⟨hf, by rw [hs]; simpa using h⟩⟩
  · have := (List.getElem?_eq_some_iff.mp hd).1
    rw [hs]
    simpa using this
  · subst e
    subst ex
    rw [List.getElem?_map] at hd
    obtain ⟨p, hp, rfl⟩ := Option.map_eq_some_iff.mp hd
    obtain ⟨v, a, b⟩ := k2.get (d := p.1) (by rw [List.getElem?_map, hp]; rfl)
    obtain ⟨u, a', b'⟩ := w2.get (d := p.2) (by rw [List.getElem?_map, hp]; rfl)
    rw [e1] at a
    rw [e2] at a'
    cases a
    cases a'
    have nx := upd_new (o := HO.tup [k, w]) hT
    have gx : Grow 0 μ2 (fr.length + lv2.length) H2 μ2 (fr.length + lv2.length) (upd H2 T (.tup [k, w])) := Grow.same nx
    refine ⟨nx, ?_⟩
    simp only [Rp]
    exact ⟨T, [k, w], rfl, .inl (.inl upd_same), by simp only [Rps]; exact ⟨_, _, rfl, Rp.grow gx _ _ b, _, _, rfl, Rp.grow gx _ _ b', rfl⟩⟩
/-- for k in a dict -/
theorem pi_dct (ft : Fits X F) {tg e : Expr} {te : TE} (he : PE X e te) : PI X tg e (iDct X F te) := by
  refine ⟨fun pins s σ H R' I h => ?_⟩
  refine thn (he.run pins s σ H _ I h) fun u s1 ⟨x, H1, I1, rx, σ0, μ, fr, lv, l, kvs, lk, r1, el, ex, g⟩ => ?_
  subst ex
  obtain rfl : u = Value.ref (μ l) := rx
  obtain ⟨es, ep, ks, ws, od, HL, hs, eo, ho, hv, I2, lkk, hf, k1, k2, hz⟩ := dict_walk ft I1 r1 el
  obtain ⟨_, g0⟩ := lkk.start r1
  refine wpAny_pyIter_dict_raw hs (raw_of I2 eo hf) (pi_one (tk := s1.toks) I2 _ (turn_keysX (ks := ks) (ws := ws) _ eo hv) ⟨_, Heap.get?_push_size _ rfl, rfl, rfl⟩ ?_)
  refine g _ H1 HL μ r1 .refl lkk ?_
  have := src_keys (lv := lockS fr lv (.dict l kvs)) (F := F) (μ := μ) (fr := fr) g0 hf (by rw [lockS_len]; exact k1) hz
  exact this
/-- for .. in d.items() -/
theorem pd_itm (ft : Fits X F) {elts : List Expr} {kk : Nat} {tpos : Pos} {e : Expr} {c : C} {apos cpos : Pos} (he : PE X e (TEo F (evm G c))) (hbase : attributeBase e "items" X.env (eval e X.env) = eval e X.env) (hline : (apos.endLine == cpos.line) = true) :
    PI X (.Tuple elts kk tpos) (.Call (.Attribute e "items" apos) [] [] cpos) (TIo X F (evIm G (.itm c))) := by
  refine ⟨fun pins s σ H R' I ⟨μ, ρ, φ, η, fr, lv, hh, g⟩ => ?_⟩
  simp only [evIm, evI] at g
  refine wpAny_Call_method (T := "dict") (id := "dict.items") hbase rfl hline PySem.F.plainAttrs_dict PySem.F.slot_dict_items PySem.F.type_dict_items (thn (he.run pins s σ H _ I ⟨μ, ρ, φ, η, fr, lv, hh, (GoI.bind (Y := YV F) g)⟩) fun u s1 ⟨x, H1, I1, rx, d, t1, μ1, e1, r1, g1, y1, k1⟩ => ?_)
  cases ed : dictL fr t1 d with
  | none => simp only [ed] at k1; exact k1.elim
  | some p =>
    obtain ⟨l, kvs⟩ := p
    simp only [ed] at k1
    have hl : ∃ lk, d = .ref l ∧ look fr t1 l = some (.dct kvs lk) := by
      cases d with
      | ref l' =>
        simp only [dictL] at ed
        cases q : look fr t1 l' with
        | none => rw [q] at ed; cases ed
        | some o =>
          rw [q] at ed
          cases o with
          | dct ks lk => cases ed; exact ⟨lk, rfl, q⟩
          | _ => cases ed
      | _ => cases ed
    obtain ⟨lk, rfl, el⟩ := hl
    obtain ⟨_, rfl⟩ := rp_ref y1
    obtain rfl : u = Value.ref (μ1 l) := rx
    obtain ⟨es, ep, ks, ws, od, HL, hs, eo, ho, hv, I2, lkk, hf, q1, q2, hz⟩ := dict_walk ft I1 r1 el
    obtain ⟨_, g0⟩ := lkk.start r1
    have raw := raw_of I2 eo hf
    refine ⟨raw.typeIs, fun a ea => by cases ea; exact ⟨od, ho, by rw [eo]⟩, ?_⟩
    have I3 : Inv X pins σ HL { s1 with heap := s1.heap.push { cls := .type "dict_items", data := .fields #[.ref (μ1 l)] } } := I2.kept (t' := s1.toks) fun b ob q => Heap.get?_push_of_some _ q
    have fin : wpAny (model X.prog X.w) X.A (pyIter (.ref s1.heap.objs.size)) (PIE X pins σ (.Tuple elts kk tpos) R') X.xe { s1 with heap := s1.heap.push { cls := .type "dict_items", data := .fields #[.ref (μ1 l)] } } := by
      refine wpAny_pyIter_items_raw (d := μ1 l) ⟨_, Heap.get?_push_size _ rfl, rfl, rfl⟩ (raw.at fun o e => Heap.get?_push_of_some _ e) (pi_one (tk := s1.toks) I3 _ (turn_itemsX (ks := ks) (ws := ws) _ eo hv) ⟨.none, .none, Heap.get?_push_size _ rfl⟩ ?_)
      refine k1 _ H1 HL μ1 r1 .refl lkk ?_
      exact src_items (lv := lockS fr t1 (.dict l kvs)) (F := F) (μ := μ1) (fr := fr) g0 hf (by rw [lockS_len]; exact q1) (by rw [lockS_len]; exact q2) hz
    show wpAny _ _ (callWith cpos (.builtin "dict.items") [.ref (μ1 l)] [] []) _ X.xe s1
    exact method_meetsIn PySem.F.slot_dict_items PySem.F.entry_dict_items rfl (PySem.evalArgs_none ⟨rfl, raw.typeIs, PySem.F.args_dict_items_1 _, _, meets_dict_items_raw (μ1 l) hs, ⟨es, ep, raw⟩, fin⟩)
end
end Sv
end -- Sem23
section -- Sem15
set_option Elab.async false
set_option linter.all false
set_option maxRecDepth 100000
set_option maxHeartbeats 2000000
/-! # Methods of built-in types -/
namespace Sv
open PySem PySem.Spec PyProof.Rows L2

/-- a method, by the interpreter's answer, of a receiver of this kind -/
def MtD (X : Cx) (F : Fm) (m : Bm) (k : Nat) (id : String) : Prop :=
  ∀ (pins : List (Addr × Obj)) (s : Shared) (σ σ' : L2.St) (H : Hp) (μ : Nat → Addr) (fr lv : Sto) (d : Sv.D) (ds : List Sv.D) (x : V) (vs : List V) (v : Value) (us : List Value) (Q : VK), Inv X pins σ H s → Rel F.z μ H fr lv → kindD fr lv d = k →
    Rp F.z μ (fr.length + lv.length) H d x → Rps F.z μ (fr.length + lv.length) H ds vs → RelV x v → Vals vs us → Go F (YV F) σ' H μ fr lv (Sv.bm fr lv m d ds) Q → wpAny (model X.prog X.w) X.A (call (.builtin id) (v :: us)) (EP X pins σ Q) X.xe s
section
variable {X : Cx} {F : Fm} {G : Orc} {σ : L2.St} {H H' : Hp} {μ μ' : Nat → Addr} {fr lv lv' : Sto}
/-- a list is written, an answer given -/
theorem put_go (r : Rel F.z μ H fr lv) {l : Nat} {xs ys : List Sv.D} {y : Sv.D} {s : Option Sto} {Q : VK} (hl : look fr lv l = some (.lst xs))
    (g : Go F (YV F) σ H μ fr lv (match put fr lv l (.lst ys) with
      | some s => .ok y s
      | none => .bad) Q) : ∃ vs, Rps F.z μ (fr.length + lv.length) H xs vs ∧ H (μ l) = some (.lst vs) ∧ ∀ us w, Rps F.z μ (fr.length + lv.length) H ys us → Rp F.z μ (fr.length + lv.length) H y w → Q w (upd H (μ l) (.lst us)) := by
  cases e : put fr lv l (.lst ys) with
  | none => rw [e] at g; exact g.elim
  | some s =>
    rw [e] at g
    obtain ⟨hlv, hll⟩ := put_live e
    obtain ⟨vs, h1, h2⟩ := lst_live r hlv hl
    refine ⟨vs, h1, h2, fun us w hu hw => ?_⟩
    obtain ⟨r2, g2⟩ := put_lst (xs := xs) r e h2 hu
    exact g w _ μ r2 g2 (Rp.grow g2 _ _ hw)
theorem md_append : MtD X F .append 3 "list.append" := fun pins s σ σ' H μ fr lv d ds x vs v us Q I r hk px ps rx rs g => by
  obtain ⟨y, w, rfl, rfl, h1, g2⟩ := one_arg (x := .bad) (f := Sv.bm fr lv .append d) ps g rfl (fun _ _ _ => rfl)
  clear g
  simp only [Sv.bm] at g2
  cases e : listW fr lv d with
  | none => rw [e] at g2; exact g2.elim
  | some p =>
    obtain ⟨l, xs⟩ := p
    rw [e] at g2
    simp only at g2
    split at g2
    · rename_i c
      obtain ⟨rfl, hl⟩ := listW_of e
      obtain ⟨_, rfl⟩ := rp_ref px
      obtain ⟨ws, h2, h3, h4⟩ := put_go (s := none) r hl g2
      exact mt_append pins s σ H _ _ v us Q I rx rs ⟨μ l, ws, w, rfl, rfl, h3, by rw [← h2.length]; exact Nat.lt_of_lt_of_le c lineMax_le, h4 _ _ (h2.app (Rps.one h1)) rp_sc.2.2.2⟩
    · exact g2.elim
theorem two_arg {ds : List Sv.D} {vs : List V} {Q : VK} {Z : Zx} {n : Nat} {f : List Sv.D → R Sv.D} (h : Rps Z μ n H ds vs) (g : Go F (YV F) σ H μ fr lv (f ds) Q) (h0 : f [] = .bad) (h1 : ∀ a, f [a] = .bad) (h3 : ∀ a b c r, f (a :: b :: c :: r) = .bad) :
    ∃ d e v w, ds = [d, e] ∧ vs = [v, w] ∧ Rp Z μ n H d v ∧ Rp Z μ n H e w ∧ Go F (YV F) σ H μ fr lv (f [d, e]) Q := by
  match ds, h, g with
  | [], _, g => rw [h0] at g; exact g.elim
  | [a], _, g => rw [h1] at g; exact g.elim
  | [d, e], h, g =>
    obtain ⟨v, w, rfl, q1, q2⟩ := rps_two h
    exact ⟨d, e, v, w, rfl, rfl, q1, q2, g⟩
  | a :: b :: c :: r, _, g => rw [h3] at g; exact g.elim
theorem md_insert : MtD X F .insert 3 "list.insert" := fun pins s σ σ' H μ fr lv d ds x vs v us Q I r hk px ps rx rs g => by
  obtain ⟨i, y, w1, w2, rfl, rfl, q1, q2, g2⟩ := two_arg (f := Sv.bm fr lv .insert d) ps g rfl (fun a => by cases a <;> rfl) (fun a _ _ _ => by cases a <;> rfl)
  clear g
  cases i with
  | int i =>
    simp only [Sv.bm] at g2
    cases e : listW fr lv d with
    | none => rw [e] at g2; exact g2.elim
    | some p =>
      obtain ⟨l, xs⟩ := p
      rw [e] at g2
      simp only at g2
      split at g2
      · rename_i c
        obtain ⟨rfl, hl⟩ := listW_of e
        obtain ⟨_, rfl⟩ := rp_ref px
        obtain ⟨ws, h2, h3, h4⟩ := put_go (s := none) r hl g2
        have hlm : lineMax = 1000000 := rfl
        refine mt_insert pins s σ H _ _ v us Q I rx rs ⟨μ l, ws, i, w2, rfl, by rw [rp_int q1], h3, by rw [← h2.length]; exact Nat.lt_of_lt_of_le c.1 lineMax_le, c.2.1, by omega, ?_⟩
        have := h4 _ .non ((h2.take i.toNat).app (Rps.app (Rps.one q2) (h2.drop i.toNat))) rp_sc.2.2.2
        simpa using this
      · exact g2.elim
  | _ => exact (show False from g2).elim
theorem lst_kind {d : Sv.D} {l : Nat} {kvs : List (Sv.D × Sv.D)} (h : dictW fr lv d = some (l, kvs)) : kindD fr lv d = 4 := by
  obtain ⟨rfl, e⟩ := dictW_of h
  simp only [kindD, e]
theorem list_kind {d : Sv.D} {l : Nat} {kvs : List Sv.D} (h : listW fr lv d = some (l, kvs)) : kindD fr lv d = 3 := by
  obtain ⟨rfl, e⟩ := listW_of h
  simp only [kindD, e]
/-! ### texts -/
theorem joinS_eq (y : Str) : ∀ zs : List Str, joinS y zs = Txt.join y zs := fun zs => by
  rw [TL.join_eq]
  induction zs with
  | nil => rfl
  | cons a r ih =>
    cases r with
    | nil => rfl
    | cons b r =>
      show a ++ y ++ joinS y (b :: r) = a ++ y ++ Str.join y (b :: r)
      rw [ih]
theorem md_join (ft : Fits X F) : MtD X F .join 1 "str.join" := fun pins s σ σ' H μ fr lv d ds x vs v us Q I r hk px ps rx rs g => by
  cases d with
  | str z =>
    obtain ⟨y, w, rfl, rfl, h1, g2⟩ := one_arg (x := .bad) (f := Sv.bm fr lv .join (.str z)) ps g rfl (fun _ _ _ => rfl)
    clear g
    simp only [Sv.bm] at g2
    cases e : itemsOf fr lv y with
    | none => rw [e] at g2; exact g2.elim
    | some xs =>
      rw [e] at g2
      simp only at g2
      cases e2 : strsOf xs with
      | none => rw [e2] at g2; exact g2.elim
      | some zs =>
        rw [e2] at g2
        simp only at g2
        split at g2
        · rename_i c
          obtain ⟨p, ys, rfl, h2, h3⟩ := items_of ft.K r h1 e
          have := strs_of h3 e2
          subst this
          have hlm : lineMax = 1000000 := rfl
          refine mt_join pins s σ H _ _ v us Q I rx rs ⟨z, p, zs, rp_str px, rfl, h2, by omega, ?_⟩
          have := Go.now (F := F) (a := D.str _) g2 r (rp_sc.2.2.1 _)
          rw [joinS_eq] at this
          exact this
        · exact g2.elim
  | non => simp [kindD] at hk
  | bl _ => simp [kindD] at hk
  | int _ => simp [kindD] at hk
  | tup _ => simp [kindD] at hk
  | ref l =>
    exfalso
    unfold kindD at hk
    simp only at hk
    split at hk <;> omega
theorem spl_one (c : Nat) : ∀ (cs acc : List Nat), TL.spl [c] 0 acc cs = match splitL c cs with
  | w :: ws => (acc ++ w) :: ws
  | [] => [acc] := fun cs => by
  induction cs with
  | nil => intro acc; simp [TL.spl, splitL]
  | cons x r ih =>
    intro acc
    by_cases h : x = c
    · subst h
      have hp : TL.pre [x] (x :: r) = true := by simp [TL.pre]
      rw [TL.spl_hit hp]
      simp only [splitL, if_true, List.append_nil]
      have := ih []
      simp only [List.length_singleton, Nat.sub_self]
      rw [this]
      cases e : splitL x r with
      | nil => exact absurd e (by cases r with
        | nil => simp [splitL]
        | cons a b => simp only [splitL]; split <;> (try split) <;> simp)
      | cons w ws => simp
    · have hp : ¬ TL.pre [c] (x :: r) = true := by simpa [TL.pre] using h
      show (if TL.pre [c] (x :: r) = true then _ else _) = _
      rw [if_neg hp, ih (acc ++ [x])]
      simp only [splitL, if_neg h]
      cases e : splitL c r with
      | nil => exact absurd e (by cases r with
        | nil => simp [splitL]
        | cons a b => simp only [splitL]; split <;> (try split) <;> simp)
      | cons w ws => simp
theorem split_eq {z sep : Str} {c : Nat} (hs : sep.cps.toList = [c]) (hc : c < 256) : Txt.split z sep = (splitL c z.cps.toList).map fun w => (⟨w.toArray⟩ : Str) := by
  have h1 := TL.split_spl z sep (by show sep.cps.toList ≠ []; rw [hs]; simp) (TL.kind_ok (by
    have : sep.cps = #[c] := Array.toList_inj.mp hs
    rw [this]
    simp [hc]))
  have h2 : TL.tl sep = [c] := hs
  rw [h2, spl_one] at h1
  refine TL.map_tl_inj ?_
  rw [h1, List.map_map]
  have h3 : (TL.tl ∘ fun w : List Nat => (⟨w.toArray⟩ : Str)) = id := by
    funext w
    simp [TL.tl]
  rw [h3, List.map_id]
  show (match splitL c (TL.tl z) with
    | w :: ws => ([] ++ w) :: ws
    | [] => [[]]) = splitL c z.cps.toList
  have : splitL c z.cps.toList ≠ [] := by
    cases z.cps.toList with
    | nil => simp [splitL]
    | cons a b => simp only [splitL]; split <;> (try split) <;> simp
  show (match splitL c z.cps.toList with
    | w :: ws => ([] ++ w) :: ws
    | [] => [[]]) = splitL c z.cps.toList
  cases e : splitL c z.cps.toList with
  | nil => exact absurd e this
  | cons w ws => rfl
theorem rps_strs {Z : Zx} {n : Nat} : ∀ zs : List Str, Rps Z μ n H (zs.map Sv.D.str) (zs.map V.str)
  | [] => by simp only [List.map_nil, Rps]
  | z :: zs => by simp only [List.map_cons, Rps]; exact ⟨_, _, rfl, rp_sc.2.2.1 _, rps_strs zs⟩
theorem md_split : MtD X F .split 1 "str.split" := fun pins s σ σ' H μ fr lv d ds x vs v us Q I r hk px ps rx rs g => by
  cases d with
  | str z =>
    obtain ⟨y, w, rfl, rfl, h1, g2⟩ := one_arg (x := .bad) (f := Sv.bm fr lv .split (.str z)) ps g rfl (fun a _ _ => by cases a <;> rfl)
    clear g
    cases y with
    | str sep =>
      simp only [Sv.bm] at g2
      split at g2
      · rename_i c hs
        split at g2
        · rename_i c2
          simp only [newL] at g2
          split at g2
          · have hlen : sep.length = 1 := by
              have := congrArg List.length hs
              show sep.cps.size = 1
              simpa using this
            refine mt_split pins s σ H _ _ v us Q I rx rs ⟨z, sep, rp_str px, by rw [rp_str h1], by rw [hlen]; rfl, by rw [sizeLine_eq]; omega, ?_⟩
            intro p hp
            rw [split_eq hs c2.1]
            refine Go.lst g2 r ?_ hp
            have := rps_strs (Z := F.z) (μ := μ) (H := H) (n := fr.length + lv.length) ((splitL c z.cps.toList).map fun w => (⟨w.toArray⟩ : Str))
            rw [List.map_map] at this
            exact this
          · exact g2.elim
        · exact g2.elim
      · exact g2.elim
    | _ => exact (show False from g2).elim
  | non => simp [kindD] at hk
  | bl _ => simp [kindD] at hk
  | int _ => simp [kindD] at hk
  | tup _ => simp [kindD] at hk
  | ref l =>
    exfalso
    unfold kindD at hk
    simp only at hk
    split at hk <;> omega
/-! ### pop, get, setdefault -/
theorem md_popL : MtD X F .pop 3 "list.pop" := fun pins s σ σ' H μ fr lv d ds x vs v us Q I r hk px ps rx rs g => by
  cases e : listW fr lv d with
  | none =>
    exfalso
    match ds, g with
    | [], g =>
      simp only [Sv.bm, e] at g
      exact g
    | [k], g =>
      simp only [Sv.bm, e] at g
      cases e2 : dictW fr lv d with
      | none => rw [e2] at g; exact g
      | some p =>
        have := lst_kind e2
        omega
    | a :: b :: c, g => exact g
  | some p =>
    obtain ⟨l, xs⟩ := p
    obtain ⟨hd, hl⟩ := listW_of e
    rw [hd] at px
    obtain ⟨_, hx⟩ := rp_ref px
    cases ds with
    | nil =>
      simp only [Sv.bm, e] at g
      have hvs : vs = [] := by simpa only [Rps] using ps
      cases e2 : xs.getLast? with
      | none => rw [e2] at g; exact g.elim
      | some y =>
        rw [e2] at g
        obtain ⟨ws, h2, h3, h4⟩ := put_go (s := none) r hl g
        have hy : xs[xs.length - 1]? = some y := by rw [← List.getLast?_eq_getElem?]; exact e2
        obtain ⟨w, hw, q1⟩ := h2.get hy
        refine mt_pop pins s σ H _ _ v us Q I rx rs ⟨μ l, ws, w, hx, hvs, h3, by rw [← h2.length]; exact hw, ?_⟩
        refine h4 _ w ?_ q1
        rw [List.dropLast_eq_take, List.dropLast_eq_take, ← h2.length]
        exact h2.take _
    | cons k t =>
      cases t with
      | cons b c => exact (show False from g).elim
      | nil =>
        obtain ⟨vk, hvs, q1⟩ := rps_one ps
        simp only [Sv.bm, e] at g
        cases k with
        | int i =>
          simp only at g
          split at g
          · rename_i c
            cases e2 : xs[i.toNat]? with
            | none => rw [e2] at g; exact g.elim
            | some y =>
              rw [e2] at g
              obtain ⟨ws, h2, h3, h4⟩ := put_go (s := none) r hl g
              obtain ⟨w, hw, q2⟩ := h2.get e2
              have hlen := h2.length
              have hlt : i.toNat < ws.length := (List.getElem?_eq_some_iff.mp hw).1
              obtain ⟨its, rv, pl, hz⟩ := I.list (.inl (.inl h3) : SqL X.K H (μ l) ws)
              have hs := sizeLine_eq
              refine mt_popAt pins s σ H _ _ v us Q I rx rs ⟨μ l, ws, i, i.toNat, w, hx, by rw [hvs, rp_int q1], h3, by omega, by omega, ?_, hw, h4 _ w ?_ q2⟩
              · have n0 : ¬ i < 0 := by omega
                have hb : (decide (0 ≤ i) && decide (i < (ws.length : Int))) = true := by
                  simp only [Bool.and_eq_true, decide_eq_true_eq]
                  omega
                show (if (decide (0 ≤ (if i < 0 then i + (ws.length : Int) else i)) && decide ((if i < 0 then i + (ws.length : Int) else i) < (ws.length : Int))) = true then some (if i < 0 then i + (ws.length : Int) else i).toNat else none) = some i.toNat
                rw [if_neg n0, if_pos hb]
              · rw [List.eraseIdx_eq_take_drop_succ, List.eraseIdx_eq_take_drop_succ]
                exact (h2.take _).app (h2.drop _)
          · exact g.elim
        | _ => exact g.elim
theorem md_get (ft : Fits X F) : MtD X F .get 4 "dict.get" := fun pins s σ σ' H μ fr lv d ds x vs v us Q I r hk px ps rx rs g => by
  obtain ⟨k, y, w1, w2, rfl, rfl, q1, q2, g2⟩ := two_arg (f := Sv.bm fr lv .get d) ps g rfl (fun a => rfl) (fun a _ _ _ => rfl)
  clear g
  simp only [Sv.bm] at g2
  cases e : dictAt fr lv d with
  | none => rw [e] at g2; exact g2.elim
  | some kvs =>
    rw [e] at g2
    simp only at g2
    split at g2
    · rename_i c
      obtain ⟨l, lk, rfl, e3⟩ := dictAt_of e
      obtain ⟨_, rfl⟩ := rp_ref px
      obtain rfl : v = Value.ref (μ l) := rx
      obtain ⟨u1, u2, rfl, z1, z2⟩ := rs.two
      exact dd_getD ft I r e3 c q1 z1 q2 z2 fun w' s' I' ⟨vv, y1, y2⟩ => ⟨vv, H, I', y1, Go.now (F := F) g2 r y2⟩
    · exact g2.elim
theorem md_popD (ft : Fits X F) : MtD X F .pop 4 "dict.pop" := fun pins s σ σ' H μ fr lv d ds x vs v us Q I r hk px ps rx rs g => by
  have e0 : listW fr lv d = none := by
    cases e : listW fr lv d with
    | none => rfl
    | some p =>
      have := list_kind e
      omega
  match ds, ps, g with
  | [], _, g =>
    exfalso
    simp only [Sv.bm, e0] at g
    exact g
  | a :: b :: c, _, g => exact (show False from g).elim
  | [k], ps, g =>
    obtain ⟨vk, rfl, q1⟩ := rps_one ps
    simp only [Sv.bm, e0] at g
    cases e : dictW fr lv d with
    | none => rw [e] at g; exact g.elim
    | some p =>
      obtain ⟨l, kvs⟩ := p
      rw [e] at g
      simp only at g
      split at g
      · rename_i c
        cases e2 : kvGet kvs k with
        | none => rw [e2] at g; exact g.elim
        | some y =>
          rw [e2] at g
          simp only at g
          cases e3 : put fr lv l (.dct (kvDel kvs k) false) with
          | none => rw [e3] at g; exact g.elim
          | some s2 =>
            rw [e3] at g
            obtain ⟨hd, hl⟩ := dictW_of e
            rw [hd] at px
            obtain ⟨_, hx⟩ := rp_ref px
            subst hx
            obtain rfl : v = Value.ref (μ l) := rx
            obtain ⟨u1, rfl, z1⟩ := rs.one
            obtain ⟨hlv, hll⟩ := put_live e3
            refine dd_pop ft I r hlv hl c q1 z1 e2 fun w' ⟨vv, y1, y2⟩ => fun s' H' lv' e' r' g' I' => ?_
            rw [e3] at e'
            cases e'
            exact ⟨vv, H', I', y1, g vv H' μ r' g' (Rp.grow g' _ _ y2)⟩
      · exact g.elim
theorem md_default (ft : Fits X F) : MtD X F .setdefault 4 "dict.setdefault" := fun pins s σ σ' H μ fr lv d ds x vs v us Q I r hk px ps rx rs g => by
  obtain ⟨k, y, w1, w2, rfl, rfl, q1, q2, g2⟩ := two_arg (f := Sv.bm fr lv .setdefault d) ps g rfl (fun a => rfl) (fun a _ _ _ => rfl)
  clear g
  simp only [Sv.bm] at g2
  cases e : dictW fr lv d with
  | none => rw [e] at g2; exact g2.elim
  | some p =>
    obtain ⟨l, kvs⟩ := p
    rw [e] at g2
    simp only at g2
    split at g2
    · rename_i c
      obtain ⟨hd, hl⟩ := dictW_of e
      rw [hd] at px
      obtain ⟨_, hx⟩ := rp_ref px
      subst hx
      obtain rfl : v = Value.ref (μ l) := rx
      obtain ⟨u1, u2, rfl, z1, z2⟩ := rs.two
      cases e2 : kvGet kvs k with
      | some y' =>
        rw [e2] at g2
        simp only at g2
        exact dd_default ft I r c.2.2 hl c.1 c.2.1 q1 z1 q2 z2 (fun d' w' s' e' ⟨vv, y1, y2⟩ I' => by
          rw [e2] at e'
          cases e'
          exact ⟨vv, H, I', y1, Go.now (F := F) g2 r y2⟩) fun e' => by rw [e2] at e'; cases e'
      | none =>
        rw [e2] at g2
        simp only at g2
        cases e3 : dictSet fr lv d k y with
        | none => rw [e3] at g2; exact g2.elim
        | some s2 =>
          rw [e3] at g2
          simp only [Sv.dictSet, e] at e3
          split at e3
          · rename_i c3
            obtain ⟨hlv, hll⟩ := put_live e3
            refine dd_default ft I r hlv hl c.1 c3.2 q1 z1 q2 z2 (fun d' w' s' e' => by rw [e2] at e'; cases e') fun _ => fun s' H' lv' e' r' g' I' => ?_
            rw [e3] at e'
            cases e'
            exact ⟨w2, H', I', z2, g2 w2 H' μ r' g' (Rp.grow g' _ _ q2)⟩
          · cases e3
    · exact g2.elim
theorem md_extend : MtD X F .extend 3 "list.extend" := fun pins s σ σ' H μ fr lv d ds x vs v us Q I r hk px ps rx rs g => by
  obtain ⟨y, w, rfl, rfl, h1, g2⟩ := one_arg (x := .bad) (f := Sv.bm fr lv .extend d) ps g rfl (fun _ _ _ => rfl)
  clear g
  simp only [Sv.bm] at g2
  cases e : listW fr lv d with
  | none => rw [e] at g2; exact g2.elim
  | some p =>
    obtain ⟨l, xs⟩ := p
    rw [e] at g2
    cases e4 : liveL fr lv y with
    | none => rw [e4] at g2; exact g2.elim
    | some ys =>
      rw [e4] at g2
      simp only at g2
      split at g2
      · rename_i c
        obtain ⟨rfl, hl⟩ := listW_of e
        obtain ⟨_, rfl⟩ := rp_ref px
        obtain ⟨ws, h2, h3, h4⟩ := put_go (s := none) r hl g2
        obtain ⟨b, zs, rfl, z1, z2⟩ := liveL_of r h1 e4
        exact mt_extend pins s σ H _ _ v us Q I rx rs ⟨μ l, b, ws, zs, rfl, rfl, h3, z1, by rw [← h2.length, ← z2.length]; exact Nat.le_trans c.1 lineMax_le, h4 _ _ (h2.app z2) rp_sc.2.2.2⟩
      · exact g2.elim
/-! ### the call -/
/-- what is known of a built-in method -/
structure MtK (X : Cx) (F : Fm) (m : Bm) (name : Str) (k : Nat) (T id : String) : Prop where
  pa : PlainAttrs T
  slot : Slot T name id
  ty : typeOf (.builtin id) = pure (.type "method_descriptor")
  mt : MtD X F m k id
  /-- such a receiver is of that type -/
  is : k = 1 ∧ T = "str" ∨ k = 3 ∧ T = "list" ∨ k = 4 ∧ T = "dict"
theorem kind_is (ft : Fits X F) {pins : List (Addr × Obj)} {s : Shared} {k : Nat} {T : String} {d : Sv.D} {x : V} {v : Value} (I : Inv X pins σ H s) (r : Rel F.z μ H fr lv) (px : Rp F.z μ (fr.length + lv.length) H d x) (rx : RelV x v) (hk : kindD fr lv d = k) (hi : k = 1 ∧ T = "str" ∨ k = 3 ∧ T = "list" ∨ k = 4 ∧ T = "dict") :
    s.TypeIs v T ∧ ∀ a, v = .ref a → ∃ ob, s.heap.get? a = some ob ∧ ob.dict = none := by
  cases d with
  | str z =>
    have : k = 1 := hk.symm
    obtain ⟨_, rfl⟩ | ⟨h, _⟩ | ⟨h, _⟩ := hi <;> try omega
    rw [rp_str px] at rx
    obtain ⟨t, rfl⟩ := rx
    exact ⟨typeIs_str s z t, fun _ e => nomatch e⟩
  | ref l =>
    obtain ⟨_, rfl⟩ := rp_ref px
    obtain rfl : v = Value.ref (μ l) := rx
    simp only [kindD] at hk
    split at hk
    · rename_i xs e
      obtain ⟨h, _⟩ | ⟨_, rfl⟩ | ⟨h, _⟩ := hi <;> try omega
      obtain ⟨vs, h1, h2⟩ := (r.obj l _ e).lst
      obtain ⟨its, _, pl, _⟩ := I.list (.inl h2 : SqL X.K H (μ l) vs)
      refine ⟨pl.isList.typeIs, fun a e => ?_⟩
      cases e
      obtain ⟨o, n, e, c, hd, _⟩ := pl
      exact ⟨o, e, hd⟩
    · rename_i kvs lk e
      obtain ⟨h, _⟩ | ⟨h, _⟩ | ⟨_, rfl⟩ := hi <;> try omega
      obtain ⟨xs, h1, h2, h3, h4, h5, m⟩ := dictX ft I r e
      obtain ⟨ep, ho⟩ := m.at_
      refine ⟨⟨_, ho, rfl⟩, fun a e => ?_⟩
      cases e
      exact ⟨_, ho, rfl⟩
    · omega
  | tup xs =>
    have : k = 2 := hk.symm
    omega
  | non => have : k = 0 := hk.symm; omega
  | bl _ => have : k = 0 := hk.symm; omega
  | int _ => have : k = 0 := hk.symm; omega
end
end Sv
end -- Sem15
section -- Sem16
set_option Elab.async false
set_option linter.all false
set_option maxRecDepth 100000
set_option maxHeartbeats 2000000
/-! # Calls of built-ins -/
namespace Sv
open PySem PySem.Spec PyProof.Rows L2

section
variable {X : Cx} {F : Fm} {G : Orc} {σ : L2.St} {H H' : Hp} {μ μ' : Nat → Addr} {fr lv lv' : Sto}
/-- a method of a built-in type is called -/
theorem pd_bm (ft : Fits X F) {m : Bm} {o e : Expr} {es : List Expr} {co : C} {cs : List C} {name : Str} {apos cpos : Pos} (hk : ∀ k, okBm m k = true → ∃ T id, MtK X F m name k T id) (ho : PE X o (TEo F (evm G co))) (ha : PA X (e :: es) (TAo F (evsm G cs)))
    (hbase : attributeBase o name X.env (eval o X.env) = eval o X.env)
    (hfew : ((backTo cpos (starEach (e :: es) X.env)).all (fun x => !x.1) && (backToKw cpos (keywordEach [] X.env)).all (fun x => x.1.isSome)
      && decide ((e :: es).length + ([] : List Keyword).length + (if ([] : List Keyword).isEmpty then 0 else 1) < 30)) = true)
    (hline : (apos.endLine == cpos.line) = true) (hs : starEach (e :: es) X.env = (false, eval e X.env) :: starEach es X.env) (hplain : (backTo cpos (starEach es X.env)).any (·.1) = false) :
    PE X (.Call (.Attribute o name apos) (e :: es) [] cpos) (TEo F (evm G (.bm m co cs))) := by
  refine ⟨fun pins s σ H Q I ⟨μ, ρ, φ, η, fr, lv, hh, g⟩ => ?_⟩
  simp only [evm, ev] at g
  refine wpAny_Call_method_late hbase hfew hline rfl (thn (ho.run pins s σ H _ I (te_seq (ma := evm G co) ft hh g)) fun v s1 ⟨x, H1, I1, r1, d, t1, μ1, h1, q1, k1⟩ => ?_)
  by_cases c : okBm m (kindD fr t1 d) = true
  case neg => rw [if_neg c] at k1; exact k1.elim
  rw [if_pos c] at k1
  obtain ⟨T, id, M⟩ := hk _ c
  obtain ⟨y1, y2⟩ := kind_is ft I1 h1.rel q1 r1 rfl M.is
  refine ⟨T, id, M.pa, M.slot, M.ty, y1, y2, ?_⟩
  have hA := ha.run cpos pins s1 σ H1 _ I1 (ta_seqG (ma := evsm G cs) ft h1 k1)
  rw [hs] at hA ⊢
  refine Calls.callWith_builtin (by show (false || (backTo cpos (starEach es X.env)).any (·.1)) = false; rw [hplain] <;> rfl) (Calls.evalArgs_plain ?_)
  exact thn hA fun us s2 ⟨vs, H2, I2, r2, ds, t2, μ2, h2, g2, q2, k2⟩ => by
    by_cases c2 : kindD fr t2 d = kindD fr t1 d
    case neg => rw [if_neg c2] at k2; exact k2.elim
    rw [if_pos c2] at k2
    exact M.mt pins s2 σ σ H2 μ2 fr t2 d ds x vs v us Q I2 h2.rel c2 (Rp.grow g2 _ _ q1) q2 r1 r2 k2
theorem pd_bm0 (ft : Fits X F) {m : Bm} {o : Expr} {co : C} {name : Str} {apos cpos : Pos} (hk : ∀ k, okBm m k = true → ∃ T id, MtK X F m name k T id) (ho : PE X o (TEo F (evm G co)))
    (hbase : attributeBase o name X.env (eval o X.env) = eval o X.env) (hline : (apos.endLine == cpos.line) = true) : PE X (.Call (.Attribute o name apos) [] [] cpos) (TEo F (evm G (.bm m co []))) := by
  refine ⟨fun pins s σ H Q I ⟨μ, ρ, φ, η, fr, lv, hh, g⟩ => ?_⟩
  simp only [evm, ev] at g
  refine wpAny_Call_method0_late hbase hline (thn (ho.run pins s σ H _ I (te_seq (ma := evm G co) ft hh g)) fun v s1 ⟨x, H1, I1, r1, d, t1, μ1, h1, q1, k1⟩ => ?_)
  by_cases c : okBm m (kindD fr t1 d) = true
  case neg => rw [if_neg c] at k1; exact k1.elim
  rw [if_pos c] at k1
  obtain ⟨T, id, M⟩ := hk _ c
  obtain ⟨y1, y2⟩ := kind_is ft I1 h1.rel q1 r1 rfl M.is
  refine ⟨T, id, M.pa, M.slot, M.ty, y1, y2, Calls.callWith_builtin rfl (PySem.evalArgs_none ?_)⟩
  have k2 : Go F (YV F) σ H1 μ1 fr t1 (if kindD fr t1 d = kindD fr t1 d then Sv.bm fr t1 m d [] else .bad) Q := by
    simpa only [evs, R.bind] using k1
  rw [if_pos rfl] at k2
  exact M.mt pins s1 σ σ H1 μ1 fr t1 d [] x [] v [] Q I1 h1.rel rfl q1 (by simp only [Rps]) r1 .nil k2
/-! ### which method is which -/
open PySem.F in
theorem mk_append : ∀ k, okBm .append k = true → ∃ T id, MtK X F .append "append" k T id := fun k h => by
  have : k = 3 := by simpa [okBm] using h
  subst this
  exact ⟨_, _, PySem.F.plainAttrs_list, PySem.F.slot_list_append, PySem.F.type_list_append, md_append, .inr (.inl ⟨rfl, rfl⟩)⟩
theorem mk_extend : ∀ k, okBm .extend k = true → ∃ T id, MtK X F .extend "extend" k T id := fun k h => by
  have : k = 3 := by simpa [okBm] using h
  subst this
  exact ⟨_, _, PySem.F.plainAttrs_list, PySem.F.slot_list_extend, PySem.F.type_list_extend, md_extend, .inr (.inl ⟨rfl, rfl⟩)⟩
theorem mk_insert : ∀ k, okBm .insert k = true → ∃ T id, MtK X F .insert "insert" k T id := fun k h => by
  have : k = 3 := by simpa [okBm] using h
  subst this
  exact ⟨_, _, PySem.F.plainAttrs_list, PySem.F.slot_list_insert, PySem.F.type_list_insert, md_insert, .inr (.inl ⟨rfl, rfl⟩)⟩
theorem mk_pop (ft : Fits X F) : ∀ k, okBm .pop k = true → ∃ T id, MtK X F .pop "pop" k T id := fun k h => by
  have : k = 3 ∨ k = 4 := by simpa [okBm] using h
  rcases this with rfl | rfl
  · exact ⟨_, _, PySem.F.plainAttrs_list, PySem.F.slot_list_pop, PySem.F.type_list_pop, md_popL, .inr (.inl ⟨rfl, rfl⟩)⟩
  · exact ⟨_, _, PySem.F.plainAttrs_dict, PySem.F.slot_dict_pop, PySem.F.type_dict_pop, md_popD ft, .inr (.inr ⟨rfl, rfl⟩)⟩
theorem mk_get (ft : Fits X F) : ∀ k, okBm .get k = true → ∃ T id, MtK X F .get "get" k T id := fun k h => by
  have : k = 4 := by simpa [okBm] using h
  subst this
  exact ⟨_, _, PySem.F.plainAttrs_dict, PySem.F.slot_dict_get, PySem.F.type_dict_get, md_get ft, .inr (.inr ⟨rfl, rfl⟩)⟩
theorem mk_default (ft : Fits X F) : ∀ k, okBm .setdefault k = true → ∃ T id, MtK X F .setdefault "setdefault" k T id := fun k h => by
  have : k = 4 := by simpa [okBm] using h
  subst this
  exact ⟨_, _, PySem.F.plainAttrs_dict, PySem.F.slot_dict_setdefault, PySem.F.type_dict_setdefault, md_default ft, .inr (.inr ⟨rfl, rfl⟩)⟩
theorem mk_join (ft : Fits X F) : ∀ k, okBm .join k = true → ∃ T id, MtK X F .join "join" k T id := fun k h => by
  have : k = 1 := by simpa [okBm] using h
  subst this
  exact ⟨_, _, PySem.F.plainAttrs_str, PySem.F.slot_str_join, PySem.F.type_str_join, md_join ft, .inl ⟨rfl, rfl⟩⟩
theorem mk_split : ∀ k, okBm .split k = true → ∃ T id, MtK X F .split "split" k T id := fun k h => by
  have : k = 1 := by simpa [okBm] using h
  subst this
  exact ⟨_, _, PySem.F.plainAttrs_str, PySem.F.slot_str_split, PySem.F.type_str_split, md_split, .inl ⟨rfl, rfl⟩⟩
end
end Sv
end -- Sem16
section -- Sem17
set_option Elab.async false
set_option linter.all false
set_option maxRecDepth 100000
set_option maxHeartbeats 2000000
/-! # Calls of built-in functions -/
namespace Sv
open PySem PySem.Spec PyProof.Rows L2

section
variable {X : Cx} {F : Fm} {G : Orc} {σ : L2.St} {H H' : Hp} {μ μ' : Nat → Addr} {fr lv lv' : Sto} {x : Str} {p pos : Pos} {e : Expr} {es : List Expr} {cs : List C} {id T : String}
/-- a built-in function is called -/
theorem pd_biB (ft : Fits X F) {b : Bi} (hb : b ≠ .len) (hc : CallR X (.builtin id) (rB F fun fr lv => bi G.rp fr lv b)) (hg : Gl X x) (hm : X.mg x = none) (hv : bootBuiltins x = some (.builtin id)) (ha : PA X (e :: es) (TAo F (evsm G cs))) (hn : x ≠ "__name__") (hdb : (x == ("__debug__" : Str)) = false)
    (he : starEach (e :: es) X.env = (false, eval e X.env) :: starEach es X.env) (hpl : (backTo pos (starEach es X.env)).any (·.1) = false) : PE X (.Call (.Name x p) (e :: es) [] pos) (TEo F (evm G (.bi b cs))) :=
  (pe_callB hc hg hm hv ha hn hdb he hpl).imp fun σ H Q ⟨μ, ρ, φ, η, fr, lv, hh, g⟩ => by
    have g : Go F (YV F) σ H μ fr lv ((evs G fr φ η cs ρ lv).bind fun ds s => bi G.rp fr s b ds) Q := by
      cases b <;> first | exact absurd rfl hb | simpa only [evm, ev] using g
    exact (ta_seq (ma := evsm G cs) ft hh g).mono fun vs H1 ⟨ds, s, μ1, h1, r1, k1⟩ => ⟨σ, μ1, fr, s, ds, h1.rel, r1, k1⟩
theorem pd_biT (ft : Fits X F) {b : Bi} (hb : b ≠ .len) (hc : CallR X (.type T) (rB F fun fr lv => bi G.rp fr lv b)) (hg : Gl X x) (hm : X.mg x = none) (hv : bootBuiltins x = some (.type T)) (ha : PA X (e :: es) (TAo F (evsm G cs))) (hn : x ≠ "__name__") (hdb : (x == ("__debug__" : Str)) = false)
    (he : starEach (e :: es) X.env = (false, eval e X.env) :: starEach es X.env) (hpl : (backTo pos (starEach es X.env)).any (·.1) = false) : PE X (.Call (.Name x p) (e :: es) [] pos) (TEo F (evm G (.bi b cs))) :=
  (pe_callTy hc hg hm hv ha hn hdb he hpl).imp fun σ H Q ⟨μ, ρ, φ, η, fr, lv, hh, g⟩ => by
    have g : Go F (YV F) σ H μ fr lv ((evs G fr φ η cs ρ lv).bind fun ds s => bi G.rp fr s b ds) Q := by
      cases b <;> first | exact absurd rfl hb | simpa only [evm, ev] using g
    exact (ta_seq (ma := evsm G cs) ft hh g).mono fun vs H1 ⟨ds, s, μ1, h1, r1, k1⟩ => ⟨σ, μ1, fr, s, ds, h1.rel, r1, k1⟩
end
end Sv
end -- Sem17
section -- Sem18
set_option Elab.async false
set_option linter.all false
set_option maxRecDepth 100000
set_option maxHeartbeats 400000
/-! # min and max of two ints -/
namespace Sv
open PySem PySem.Spec PyProof.Rows L2

section
variable {X : Cx} {F : Fm} {G : Orc} {σ : L2.St} {H H' : Hp} {μ μ' : Nat → Addr} {fr lv lv' : Sto}
/-- two ints, or nothing -/
def twoI (f : Int → Int → Int) (lv : Sto) : List Sv.D → R Sv.D
  | [a, b] => (match a, b with
    | .int i, .int j => .ok (.int (f i j)) lv
    | _, _ => .bad)
  | _ => .bad
theorem cr_min2 (hc : X.calm = true) : CallR X (.builtin "min") (rB F fun _ lv => twoI (fun a b => if b < a then b else a) lv) := (call_min2 hc).imp fun vs H Q ⟨σ, μ, fr, lv, ds, r, h, g⟩ => by
  obtain ⟨a, b, v, w, rfl, rfl, q1, q2, g2⟩ := two_arg (f := twoI (fun a b => if b < a then b else a) lv) h g rfl (fun _ => rfl) (fun _ _ _ _ => rfl)
  clear g
  cases a with
  | int i =>
    cases b with
    | int j => exact ⟨i, j, by rw [rp_int q1, rp_int q2], Go.now (F := F) (a := D.int _) g2 r (rp_sc.2.1 _)⟩
    | _ => exact (show False from g2).elim
  | _ => exact (show False from g2).elim
theorem cr_max2 (hc : X.calm = true) : CallR X (.builtin "max") (rB F fun _ lv => twoI (fun a b => if b > a then b else a) lv) := (call_max2 hc).imp fun vs H Q ⟨σ, μ, fr, lv, ds, r, h, g⟩ => by
  obtain ⟨a, b, v, w, rfl, rfl, q1, q2, g2⟩ := two_arg (f := twoI (fun a b => if b > a then b else a) lv) h g rfl (fun _ => rfl) (fun _ _ _ _ => rfl)
  clear g
  cases a with
  | int i =>
    cases b with
    | int j => exact ⟨i, j, by rw [rp_int q1, rp_int q2], Go.now (F := F) (a := D.int _) g2 r (rp_sc.2.1 _)⟩
    | _ => exact (show False from g2).elim
  | _ => exact (show False from g2).elim
end
end Sv
end -- Sem18
section -- Sem24
set_option Elab.async false
set_option linter.all false
set_option maxRecDepth 100000
set_option maxHeartbeats 2000000
/-! # len -/
namespace Sv
open PySem PySem.Spec PyProof.Rows L2

section
variable {X : Cx} {F : Fm} {G : Orc} {σ : L2.St} {H H' : Hp} {μ μ' : Nat → Addr} {fr lv lv' : Sto} {k : Nat} {gl : List (Str × GV)} {ms : List (Str × Nat × List (List Str))}
/-- len of an instance whose class has a __len__ -/
theorem len_own {pins : List (Addr × Obj)} {s : Shared} {a C0 dx f : Addr} {fs : List (Str × V)} {fd : FuncData} {ps : List Str} {sp : List Sv.D → List FV → Sto → Sto → R Sv.D} {Q : VK} (ft : Fits X F) (I : Inv X pins σ H s) (e : H a = some (.ins C0 dx fs)) (mt : Meth X.K C0 "__len__" f)
    (Fk : FnS X.prog X.w X.K X.mg X.base F.z k f fd ps sp) (hr : Room (k + 1) X.A) (hb : Binds X.K fd ps []) (h : spI F.z sp F.clo [.ref a] H (fun v H' => ∃ n : Int, v = .int n ∧ 0 ≤ n ∧ n ≤ 1000000 ∧ Q (.int n) H') fun cls d H' => F.W cls d σ H') :
    wpAny (model X.prog X.w) X.A (call (.builtin "len") [.ref a]) (EP X pins σ Q) X.xe s := by
  obtain ⟨mA, O, r, _, _, _⟩ := ins_get I.hok e
  have sp1 : PySem.W.Looks (model X.prog X.w) s.heap (specialOf (.ref a) "__len__") (some (.ref f)) := (NwA.type_at O.obj rfl).andThen (PySem.W.looks_findIn I.kIn mt.at_)
  have hl : ([Value.ref a] ++ []).length = ps.length := (Fk.len _ _ _ _ _ h).symm ▸ rfl
  have r1 : Vals [V.ref a] [Value.ref a] := .cons rfl .nil
  have rc := Fk.run X.A.in1 X.stack s H ⟨[.ref a], []⟩ [.ref a] [.ref a] _ _ hr.in1 ft.gd I.env0.in1 (by simpa using hb s [.ref a] I.kIn hl) r1 (spI_mono (fun id a vs => ft.cl H s id a vs I.base) h)
  refine Calls.call_function_entry kind_len plain_len entry_len (args_len1 _) ?_
  unfold Builtin.«len»
  refine wpAny_bind (m := oneArg "len" _) (wpAny_pure ?_)
  refine wpAny_bind (m := callSpecial? (.ref a) (PySem.Str.ofString "__len__")) ?_
  simp only [callSpecial?]
  refine wpAny_bind (sp1.here ?_)
  refine wpAny_holding (wpAny_bind ((PySem.W.bind_fn I.kIn _ (beq_iff_eq.mp mt.fn)).here ?_))
  refine wpAny_bind (wpAny_call (codeAny_mono rc fun r s' hq => ?_))
  cases r with
  | error er => exact ft.tk er s' (XE.of_call I (fun _ _ _ z => z) hq)
  | ok fl =>
    cases fl with
    | next => exact False.elim hq
    | brk => exact False.elim hq
    | cont => exact False.elim hq
    | ret u =>
      obtain ⟨v, H', I', rv, n, rfl, n0, n1, q⟩ := I.after hq
      obtain ⟨t, rfl⟩ := rv
      refine wpAny_pure ?_
      refine wpAny_bind (wpAny_holding (wpAny_pure ?_))
      refine wpAny_bind (wpAny_letGo ?_)
      show wpAny _ _ (if (n : Int) < 0 then _ else _) _ _ _
      rw [if_neg (by omega)]
      show wpAny _ _ (if (n : Int) ≥ 2 ^ 63 then _ else _) _ _ _
      rw [if_neg (by omega)]
      exact wpAny_bind (wpAny_mkInt (wpAny_pure ⟨_, rfl, .int n, H', I'.tok _, ⟨_, rfl⟩, q⟩))
theorem goC_imp {Z : Zx} {x : R Sv.D} {Q Q' : VK} {E : XK} (h : GoC Z H μ fr lv x Q E) (i : ∀ v H', Q v H' → Q' v H') : GoC Z H μ fr lv x Q' E := by
  cases x with
  | ok d s => exact fun v H' μ' r g y => i _ _ (h v H' μ' r g y)
  | ex c v s => exact h
  | bad => exact h
/-- len(..) -/
theorem pd_len (ft : Fits X F) (kn : Kn X F.z G k gl ms) {pss : List (List Str)} (hms : ms.lookup ("__len__" : Str) = some (mLen, pss)) {p pos : Pos} {e : Expr} {es : List Expr} {cs : List C} (hg : Gl X "len") (hm : X.mg "len" = none) (ha : PA X (e :: es) (TAo F (evsm G cs)))
    (he : starEach (e :: es) X.env = (false, eval e X.env) :: starEach es X.env) (hpl : (backTo pos (starEach es X.env)).any (·.1) = false) : PE X (.Call (.Name "len" p) (e :: es) [] pos) (TEo F (evm G (.bi .len cs))) := by
  refine ⟨fun pins s σ H Q I ⟨μ, ρ, φ, η, fr, lv, hh, g⟩ => ?_⟩
  have g : Go F (YV F) σ H μ fr lv ((evs G fr φ η cs ρ lv).bind fun ds s => match ds with
    | [d] => lenR G fr s d
    | _ => .bad) Q := by
    simp only [evm, ev] at g
    refine go_mono ?_ g
    congr 1
    funext ds s
    match ds with
    | [] => rfl
    | [_] => rfl
    | _ :: _ :: _ => rfl
  refine wpAny_Call_Name_kw (ld_blt I hg hm PyProof.Rows.Boot.«len» ?_ (by decide) (by decide))
  refine PyProof.Rows.callWith_builtin1 (thn (ha.run pos pins s σ H _ I (ta_seq (ma := evsm G cs) ft hh g)) fun us s1 ⟨vs, H1, I1, r1, ds, t1, μ1, h1, q1, k1⟩ => ?_) he hpl
  match ds, q1, k1 with
  | [], _, k1 => exact k1.elim
  | _ :: _ :: _, _, k1 => exact k1.elim
  | [d], q1, k1 =>
    obtain ⟨v, rfl, q2⟩ := rps_one q1
    cases ei : insAt fr t1 d with
    | none =>
      have k1 : Go F (YV F) σ H1 μ1 fr t1 (bi G.rp fr t1 .len [d]) Q := by
        simp only [lenR, ei] at k1
        exact k1
      exact cr_len' ft pins s1 σ H1 [v] us Q I1 r1 ⟨σ, μ1, fr, t1, [d], h1.rel, q1, k1⟩
    | some z =>
      obtain ⟨l, c, fs⟩ := z
      simp only [lenR, ei] at k1
      obtain ⟨rfl, hl⟩ := insAt_of ei
      obtain ⟨_, rfl⟩ := rp_ref q2
      obtain ⟨u, rfl, rx⟩ := vals1 r1
      obtain rfl : u = Value.ref (μ1 l) := rx
      cases ec : clsAt G fr t1 (.ref l) mLen with
      | none => simp only [ec] at k1; exact k1.elim
      | some c' =>
        simp only [ec] at k1
        obtain ⟨l', fs', e1, e2, hc⟩ := clsAt_of ec
        cases e1
        rw [hl] at e2
        cases e2
        obtain ⟨mt, ⟨ps, fd, hf, hb, hk⟩, hno⟩ := kn.mth "__len__" mLen pss hms c hc
        obtain ⟨dx, ws, h2, hcs, h3⟩ := h1.rel.obj l _ hl
        refine len_own ft I1 h2 mt hf kn.rm hb ⟨μ1, [.ref l], [], [.ref (μ1 l)], [], fr, t1, rfl, h1.rel, q1, .nil, ?_⟩
        cases eg : G.call (mid c mLen) [.ref l] [] fr t1 with
        | bad => rw [eg] at k1; exact k1
        | ex cc v s2 => rw [eg] at k1; exact k1
        | ok n s2 =>
          rw [eg] at k1
          intro v H' μ' r g y
          cases n with
          | int i =>
            have k1 : Go F (YV F) σ H1 μ1 fr t1 (if 0 ≤ i ∧ i ≤ 1000000 then .ok (.int i) s2 else .bad) Q := k1
            split at k1
            · rename_i cc
              exact ⟨i, rp_int y, cc.1, cc.2, k1 _ H' μ' r g (rp_sc.2.1 _)⟩
            · exact k1.elim
          | _ => exact (show False from k1).elim
end
end Sv
end -- Sem24
section -- Sem25
set_option Elab.async false
set_option linter.all false
set_option maxRecDepth 100000
set_option maxHeartbeats 2000000
set_option exponentiation.threshold 3000
/-! # repr -/
namespace Sv
open PySem PySem.Spec PyProof.Rows L2

section
variable {X : Cx} {F : Fm} {G : Orc} {σ : L2.St} {H H' : Hp} {μ μ' : Nat → Addr} {fr lv lv' : Sto}
mutual
/-- what pd reads has no dict -/
theorem pd_nodict : ∀ (n : Nat) (d : Sv.D) (x : PyData), pd fr lv n d = some x → x.hasDict = false
  | n, .non, x, h => by cases n <;> (simp only [pd, Option.some.injEq] at h; subst h; rfl)
  | n, .bl b, x, h => by cases n <;> (simp only [pd, Option.some.injEq] at h; subst h; rfl)
  | n, .int b, x, h => by cases n <;> (simp only [pd, Option.some.injEq] at h; subst h; rfl)
  | n, .str b, x, h => by
    cases n with
    | zero =>
      simp only [pd] at h
      split at h
      · cases h; rfl
      · cases h
    | succ n =>
      simp only [pd] at h
      split at h
      · cases h; rfl
      · cases h
  | 0, .tup xs, x, h => by simp [pd] at h
  | 0, .ref l, x, h => by simp [pd] at h
  | n + 1, .tup xs, x, h => by
    simp only [pd] at h
    obtain ⟨ys, e, rfl⟩ := Option.map_eq_some_iff.mp h
    simp only [PyData.hasDict]
    exact pd_nodicts n xs ys e
  | n + 1, .ref l, x, h => by
    simp only [pd] at h
    split at h
    · rename_i xs _
      obtain ⟨ys, e, rfl⟩ := Option.map_eq_some_iff.mp h
      simp only [PyData.hasDict]
      exact pd_nodicts n xs ys e
    · cases h
termination_by n d => (n, 0, sizeOf d)
theorem pd_nodicts : ∀ (n : Nat) (ds : List Sv.D) (xs : List PyData), ds.mapM (pd fr lv n) = some xs → PyData.hasDictAll xs = false
  | n, [], xs, h => by
    rw [mapM_nil_some h]
    rfl
  | n, d :: ds, xs, h => by
    obtain ⟨b, t, e1, e2, rfl⟩ := mapM_cons_some h
    simp only [PyData.hasDictAll, pd_nodict n d b e1, pd_nodicts n ds t e2, Bool.or_self]
termination_by n ds => (n, 1, sizeOf ds)
end
/-- flat data is read without a list or a dict -/
theorem flat_reads {pins : List (Addr × Obj)} {s : Shared} {Z : Zx} (I : Inv X pins σ H s) (hK : X.K = Z.K) : ∀ (n m : Nat) (d : Sv.D) (v : V) (u : Value) (x : PyData), D.flat d = true → pd fr lv n d = some x → Rp Z μ m H d v → RelV v u → Reads s.heap u x [] := by
  intro n
  induction n with
  | zero =>
    intro m d v u x hf e p r
    cases d with
    | non => simp only [pd, Option.some.injEq] at e; subst e; simp only [Rp] at p; subst p; cases r; exact .none
    | bl b => simp only [pd, Option.some.injEq] at e; subst e; rw [rp_bl p] at r; cases r; exact .bool b
    | int i => simp only [pd, Option.some.injEq] at e; subst e; rw [rp_int p] at r; obtain ⟨t, rfl⟩ := r; exact .int i t
    | str z =>
      simp only [pd] at e
      split at e
      · cases e; rw [rp_str p] at r; obtain ⟨t, rfl⟩ := r; exact .str z t
      · cases e
    | tup xs => simp [pd] at e
    | ref l => simp [D.flat] at hf
  | succ n ih =>
    intro m d v u x hf e p r
    cases d with
    | non => simp only [pd, Option.some.injEq] at e; subst e; simp only [Rp] at p; subst p; cases r; exact .none
    | bl b => simp only [pd, Option.some.injEq] at e; subst e; rw [rp_bl p] at r; cases r; exact .bool b
    | int i => simp only [pd, Option.some.injEq] at e; subst e; rw [rp_int p] at r; obtain ⟨t, rfl⟩ := r; exact .int i t
    | str z =>
      simp only [pd] at e
      split at e
      · cases e; rw [rp_str p] at r; obtain ⟨t, rfl⟩ := r; exact .str z t
      · cases e
    | ref l => simp [D.flat] at hf
    | tup xs =>
      simp only [pd] at e
      obtain ⟨ys, e1, rfl⟩ := Option.map_eq_some_iff.mp e
      obtain ⟨a, vs, rfl, h1, h2⟩ := rp_tup p
      obtain rfl : u = Value.ref a := r
      rw [← hK] at h1
      obtain ⟨its, rv, ⟨o, ho, hc, k, hd⟩, hzz⟩ := I.tuple h1
      refine .tuple ho hc hd ?_
      simp only [D.flat] at hf
      clear h1 ho hc hd e p hzz
      show ReadsAll s.heap its ys []
      induction xs generalizing vs its ys with
      | nil =>
        rw [mapM_nil_some e1]
        simp only [Rps] at h2
        subst h2
        cases rv
        exact .nil
      | cons x xs ihl =>
        simp only [Rps] at h2
        simp only [D.flats, Bool.and_eq_true] at hf
        obtain ⟨v, q, rfl, h3, h4⟩ := h2
        obtain ⟨b, t, e2, e3, rfl⟩ := mapM_cons_some e1
        cases rv with
        | cons r1 r2 =>
          have := ReadsAll.cons (ih m x v _ b hf.1 e2 h3 r1) (ihl hf.2 t e3 _ h4 _ r2)
          simpa using this
theorem kv_depth {n : Nat} : ∀ {ps : List (PyData × PyData)}, PyData.depthAll (ps.map (·.1)) ≤ n → PyData.depthAll (ps.map (·.2)) ≤ n → PyData.depthKv ps ≤ n
  | [], _, _ => by simp [PyData.depthKv]
  | (a, b) :: r, h1, h2 => by
    simp only [List.map_cons, PyData.depthAll] at h1 h2
    simp only [PyData.depthKv]
    have := kv_depth (ps := r) (n := n) (by omega) (by omega)
    omega
theorem cr_repr (ft : Fits X F) : CallR X (.builtin "repr") (rB F fun fr lv => bi G.rp fr lv .repr) := by
  intro pins s σ H vs us Q I rs ⟨σ', μ, fr, lv, ds, r, h, g⟩
  obtain ⟨d, v, rfl, rfl, h1, g⟩ := one_arg (x := .bad) h g rfl (fun _ _ _ => rfl)
  obtain ⟨u, rfl, rx⟩ := vals1 rs
  simp only [bi] at g
  cases e : reprD fr lv d with
  | none => rw [e] at g; exact g.elim
  | some x =>
    rw [e] at g
    by_cases c : (x.showable && decide (x.shown.length ≤ lineMax)) = true
    case neg => simp only [c] at g; exact g.elim
    simp only [c, if_true] at g
    have g2 : Go F (YV F) σ' H μ fr lv (.ok (.str x.shown) lv) Q := g
    clear g
    have q : Q (.str x.shown) H := Go.now (F := F) (a := D.str _) g2 r (rp_sc.2.2.1 _)
    clear g2
    simp only [Bool.and_eq_true, decide_eq_true_eq] at c
    have hz : x.shown.length ≤ sizeLine := Nat.le_trans c.2 lineMax_le
    have hun := ft.un
    -- an object that is read
    have fin : ∀ (a : Addr) (as : List Addr), u = .ref a → Reads s.heap u x as → (x.hasDict = true → sysModules ∉ as) → x.depth ≤ 60 → wpAny (model X.prog X.w) X.A (call (.builtin "repr") [u]) (EP X pins σ Q) X.xe s := fun a as eu rd hs hd => by
      subst eu
      exact repr_of_reads' rd c.1 hs ft.gd (by omega) (fun _ _ z => z) (fun h' t tk hk => ⟨.str x.shown, H, I.kept hk, ⟨_, rfl⟩, q⟩) hz
    have dat : ∀ (a : Addr), u = .ref a → pd fr lv pdDepth d = some x → wpAny (model X.prog X.w) X.A (call (.builtin "repr") [u]) (EP X pins σ Q) X.xe s := fun a eu ep => by
      obtain ⟨k1, k2, k3⟩ := pd_dp r _ d v x h1 ep
      rw [← ft.K] at k1
      obtain ⟨as, rd⟩ := Dp.reads I x v u k1 rx
      exact fin a as eu rd (fun z => by rw [pd_nodict _ _ _ ep] at z; cases z) (Nat.le_trans k3 (by decide))
    cases d with
    | non => cases e
    | bl _ => cases e
    | str _ => cases e
    | int i =>
      have e : x = PyData.int i := by
        have e : some (PyData.int i) = some x := by simpa only [reprD, pd] using e
        exact (Option.some.inj e).symm
      subst e
      refine SkE.call_repr_int pins s σ H [v] [u] Q I rs ⟨i, by rw [rp_int h1], ?_, ?_⟩
      · simpa [PyData.showable] using c.1
      · rw [PyData.shown_int] at q
        exact q
    | tup xs =>
      obtain ⟨a, ws, rfl, _, _⟩ := rp_tup h1
      exact dat a rx (by simpa only [reprD] using e)
    | ref l =>
      obtain ⟨hl, rfl⟩ := rp_ref h1
      simp only [reprD] at e
      split at e
      · rename_i kvs lk el
        obtain ⟨ps, e1, rfl⟩ := Option.map_eq_some_iff.mp e
        obtain ⟨xs, m1, m2, m3, m4, m5, m⟩ := dictX ft I r el
        obtain ⟨ep, ho⟩ := m.at_
        have key : ReadsAll s.heap (xs.map fun y => y.2.1) (ps.map (·.1)) [] ∧ ReadsAll s.heap (xs.map fun y => y.2.2) (ps.map (·.2)) [] ∧ PyData.depthAll (ps.map (·.1)) ≤ pdDepth ∧ PyData.depthAll (ps.map (·.2)) ≤ pdDepth := by
          clear m1 m2 m3 m5 m ho ep el e fin dat q c hz
          induction m4 generalizing ps with
          | nil =>
            rw [mapM_nil_some e1]
            exact ⟨.nil, .nil, Nat.zero_le _, Nat.zero_le _⟩
          | @cons p y kvs xs qq _ ihl =>
            obtain ⟨b, t, e2, e3, rfl⟩ := mapM_cons_some e1
            obtain ⟨i1, i2, i3, i4⟩ := ihl t e3
            obtain ⟨_, _, ⟨kv, a1, a2⟩, wv, b1, b2⟩ := qq
            split at e2
            case isFalse => cases e2
            case isTrue hf =>
            simp only [Bool.and_eq_true] at hf
            cases ea : pd fr lv pdDepth p.1 with
            | none => rw [ea] at e2; cases e2
            | some ka =>
              cases eb : pd fr lv pdDepth p.2 with
              | none => rw [ea, eb] at e2; cases e2
              | some kb =>
                rw [ea, eb] at e2
                cases e2
                have d1 := (pd_dp r _ _ _ _ a2 ea).2.2
                have d2 := (pd_dp r _ _ _ _ b2 eb).2.2
                have r1 := ReadsAll.cons (flat_reads I ft.K _ _ _ _ _ _ hf.1 ea a2 a1) i1
                have r2 := ReadsAll.cons (flat_reads I ft.K _ _ _ _ _ _ hf.2 eb b2 b1) i2
                exact ⟨by simpa using r1, by simpa using r2, by simp only [List.map_cons, PyData.depthAll]; omega, by simp only [List.map_cons, PyData.depthAll]; omega⟩
        obtain ⟨k1, k2, k3, k4⟩ := key
        obtain rfl : u = Value.ref (μ l) := rx
        have rd : Reads s.heap (.ref (μ l)) (.dict ps) (μ l :: [] ++ []) := .dict ho rfl rfl (by simpa [entO, Function.comp_def] using k1) (by simpa [entO, Function.comp_def] using k2)
        refine fin (μ l) _ rfl rd (fun _ z => ?_) ?_
        · simp only [List.append_nil, List.mem_cons, List.not_mem_nil, or_false] at z
          rw [← z] at m1
          simp at m1
        · have : pdDepth = 24 := rfl
          simp only [PyData.depth]
          have := kv_depth k3 k4
          omega
      · exact dat _ rx e
end
end Sv
end -- Sem25
section -- Sem26
set_option Elab.async false
set_option linter.all false
set_option maxRecDepth 100000
set_option maxHeartbeats 2000000
/-! # From the compiled form to the text: what a context has, small facts of the text's forms -/
namespace Sv
open PySem PySem.Spec PyProof.Rows L2

/-! ### what is covered -/
def okBi : Bi → Bool
  | .len => true
  | .list => true
  | .tuple => true
  | .abs => true
  | .int => true
  | .str => true
  | .repr => true
  | .all => true
  | .sum => true
  | _ => false
def okBm' : Bm → Bool
  | .append => true
  | .extend => true
  | .insert => true
  | .pop => true
  | .get => true
  | .setdefault => true
  | .join => true
  | .split => true
  | _ => false
/-- an f-string of one part is a value's text -/
def fstOk : List C → Bool
  | [] => false
  | [.con _] => false
  | _ => true
mutual
def okC : C → Bool
  | .con _ => true
  | .var _ => true
  | .tup es => okCs es
  | .lst es => okCs es
  | .neg a => okC a
  | .not a => okC a
  | .bin _ a b => okC a && okC b
  | .cmp _ a b => okC a && okC b
  | .chain _ _ a b c => okC a && okC b && okC c
  | .and a b => okC a && okC b
  | .or a b => okC a && okC b
  | .ifx t a b => okC t && okC a && okC b
  | .idx o i => okC o && okC i
  | .slc o lo hi => okC o && okO lo && okO hi
  | .rev o => okC o
  | .att o _ => okC o
  | .call _ es => okCs es
  | .mk _ es => okCs es
  | .mth _ o es => okC o && okCs es
  | .bi b es => okBi b && okCs es
  | .bm m o es => okBm' m && okC o && okCs es
  | .lc e _ _ it cond => okC e && okIt it && okO cond
  | .exf => true
  | .fst ps => okCs ps && fstOk ps
  | .fmt a => okC a
  | _ => false
def okCs : List C → Bool
  | [] => true
  | e :: es => okC e && okCs es
def okO : Option C → Bool
  | none => true
  | some e => okC e
def okIt : I → Bool
  | .val e => okC e
  | .rng1 b => okC b
  | .rng2 a b => okC a && okC b
  | .itm e => okC e
  | _ => false
end
/-! ### the context -/
/-- the names of built-in things -/
def bnames : List Str := ["len", "list", "tuple", "dict", "sorted", "abs", "int", "str", "repr", "all", "sum", "min", "max", "range", "enumerate", "zip", "isinstance", "set", "bool"]
/-- what of the module is known -/
structure Md (X : Cx) (Z : Zx) (G : Orc) (S : Sta) : Prop where
  con : ∀ x d, S.gl.lookup x = some (.con d) → ∃ u v, X.mg x = some u ∧ RelV v u ∧ ∀ μ n H, Rp Z μ n H d v
  nn : ∀ x ∈ bnames, S.gl.lookup x = none → X.mg x = none
  ats : ∀ f i, S.ats.lookup f = some i → i ∈ Z.ats ∧ Z.atN i = f
  cf : ClsF X.K Z
  exf : ∀ k f, S.efs.lookup k = some f → XfC X.K (Z.exA k) ∧ PySem.W.findIn X.K (.ref (Z.exA k)) f = some none ∧ Z.exF k = [f]
  len : ∃ pss, S.ms.lookup ("__len__" : Str) = some (mLen, pss)
/-- an except suite -/
def SuiteAt (X : Cx) (F : Fm) (n : Str) (k : Nat) : Prop := ∃ (X0 : Cx) (F0 : Fm) (a : Addr) (oe : Obj) (pn : List (Addr × Obj)) (i : Nat) (dd : Addr), X = X0.suite a ((a, oe) :: pn) ∧ F = F0.hnd (some (i, a)) k dd ∧
  Zc (.ref (F0.z.exA k)) (some dd) oe ∧ (∃ vs, oe.data = .fields vs) ∧ X0.N[i]? = some n ∧ Vis X0.env.scope n ∧ okN n = true
structure Ctx (X : Cx) (F : Fm) (G : Orc) (k : Nat) (S : Sta) : Prop where
  ft : Fits X F
  sc : X.env.scope = S.sc
  nN : X.N = S.N
  md : Md X F.z G S
  kn : S.exn = none → Kn X F.z G k S.gl S.ms
  calm : X.calm = S.exn.isNone
  fps : ∀ j, j < F.nf → ∃ x, x ∈ S.fps ∧ S.N[F.np + j]? = some x
  su : ∀ n, S.exn = some n → SuiteAt X F n S.exk
  xs : S.exn = none → F.xs = none

/-! ### names -/
theorem findIdx_at {N : List Str} {x : Str} {i : Nat} (h : N.findIdx? (· == x) = some i) : N[i]? = some x := by
  rw [List.findIdx?_eq_some_iff_getElem] at h
  obtain ⟨hi, h1, _⟩ := h
  rw [List.getElem?_eq_getElem hi]
  simpa using h1
theorem okN_of {x : Str} (h : okN x = true) : (x == ("__debug__" : Str)) = false ∧ (x == ("__classdict__" : Str)) = false ∧ x ≠ "__name__" := by
  unfold okN at h
  simp only [Bool.and_eq_true, bne_iff_ne, ne_eq] at h
  exact ⟨beq_eq_false_iff_ne.mpr h.1.1, beq_eq_false_iff_ne.mpr h.1.2, h.2⟩
theorem slot_of {S : Sta} {x : Str} {i : Nat} (h : slotOf S x = some i) : S.N[i]? = some x ∧ Vis S.sc x ∧ okN x = true := by
  unfold slotOf at h
  split at h
  · rename_i c
    split at h
    · rename_i e; exact ⟨findIdx_at h, .inl e, c⟩
    · rename_i e; exact ⟨findIdx_at h, .inr (.inl e), c⟩
    · rename_i e; exact ⟨findIdx_at h, .inr (.inr e), c⟩
    · cases h
  · cases h
theorem target_of {S : Sta} {x : Str} {i : Nat} (h : targetOf S x = some i) : S.N[i]? = some x ∧ Loc S.sc x ∧ x ∉ S.fps ∧ S.exn ≠ some x := by
  unfold targetOf at h
  split at h
  · cases h
  · rename_i c
    simp only [Bool.or_eq_true, beq_iff_eq, not_or] at c
    have c1 : x ∉ S.fps := fun z => c.1 (by simpa using z)
    split at h
    · rename_i e; exact ⟨findIdx_at h, .inl e, c1, c.2⟩
    · rename_i e; exact ⟨findIdx_at h, .inr e, c1, c.2⟩
    · cases h
theorem glob_of {S : Sta} {x : Str} (h : isGlob S x = true) : S.sc.names.lookup x = some .globalImplicit ∧ okN x = true := by
  unfold isGlob at h
  simp only [Bool.and_eq_true, beq_iff_eq] at h
  exact h
section
variable {X : Cx} {F : Fm} {G : Orc} {k : Nat} {S : Sta}
theorem Ctx.gl (c : Ctx X F G k S) {x : Str} (h : isGlob S x = true) : Gl X x := by
  show X.env.scope.names.lookup x = _
  rw [c.sc]
  exact (glob_of h).1
theorem Ctx.slot (c : Ctx X F G k S) {x : Str} {i : Nat} (h : targetOf S x = some i) (hx : ∀ n, S.exn = some n → ∃ j, S.N[j]? = some n ∧ ∀ l a, F.xs = some (l, a) → l = j) : SlotOk F i := by
  obtain ⟨h1, _, h3, h4⟩ := target_of h
  have nd : S.N.Nodup := by rw [← c.nN]; exact c.ft.nd
  refine ⟨?_, fun j a e z => ?_⟩
  · by_cases q : i < F.np
    · exact .inl q
    · by_cases q2 : F.np + F.nf ≤ i
      · exact .inr q2
      · obtain ⟨y, hy, hN⟩ := c.fps (i - F.np) (by omega)
        have : F.np + (i - F.np) = i := by omega
        rw [this, h1] at hN
        cases hN
        exact absurd hy h3
  · subst z
    cases e2 : S.exn with
    | none => rw [c.xs e2] at e; cases e
    | some n =>
      obtain ⟨j, hj, hl⟩ := hx n e2
      have := hl _ _ e
      subst this
      rw [h1] at hj
      cases hj
      exact h4 e2
theorem Ctx.slot' (c : Ctx X F G k S) {x : Str} {i : Nat} (h : targetOf S x = some i) : SlotOk F i := by
  refine c.slot h fun n hn => ?_
  obtain ⟨X0, F0, a, oe, pn, j, dd, e1, e2, _, _, hN, _⟩ := c.su n hn
  refine ⟨j, ?_, fun l b e => ?_⟩
  · rw [← c.nN, e1]; exact hN
  · rw [e2] at e
    have e : some (j, a) = some (l, b) := e
    cases e
    rfl
/-! ### forms -/
def NoStar : Expr → Prop
  | .Starred .. => False
  | _ => True
theorem nostar_of {S : Sta} {n p : Nat} {e : Expr} {c : C} (h : cE S n p e = some c) : NoStar e := by
  cases n with
  | zero => simp [cE] at h
  | succ n =>
    cases e <;> first | exact True.intro | (simp only [cE] at h; cases h)
theorem star_of {e : Expr} (h : NoStar e) (es : List Expr) (env : PySem.Env) : starEach (e :: es) env = (false, eval e env) :: starEach es env := by
  cases e <;> first | rfl | exact h.elim
theorem stars_of {S : Sta} {env : PySem.Env} {pos : Pos} : ∀ {n p : Nat} {es : List Expr} {cs : List C}, cEs S n p es = some cs → (backTo pos (starEach es env)).any (·.1) = false
  | 0, p, es, cs, h => by simp [cEs] at h
  | n + 1, p, [], cs, h => rfl
  | n + 1, p, e :: es, cs, h => by
    simp only [cEs] at h
    split at h
    · rename_i a b h1 h2
      rw [star_of (nostar_of h1)]
      show (false || (backTo pos (starEach es env)).any (·.1)) = false
      rw [stars_of h2]
      rfl
    · cases h
theorem starsAll_of {S : Sta} {env : PySem.Env} {pos : Pos} {n p : Nat} {es : List Expr} {cs : List C} (h : cEs S n p es = some cs) : (backTo pos (starEach es env)).all (fun x => !x.1) = true := by
  have := stars_of (env := env) (pos := pos) h
  rw [List.any_eq_false] at this
  rw [List.all_eq_true]
  intro x hx
  have := this x hx
  simpa using this
theorem cEs_cons {S : Sta} {n p : Nat} {e : Expr} {es : List Expr} {cs : List C} (h : cEs S (n + 1) p (e :: es) = some cs) : ∃ a b, cE S n (2 * p) e = some a ∧ cEs S n (2 * p + 1) es = some b ∧ cs = a :: b := by
  simp only [cEs] at h
  split at h
  · rename_i a b h1 h2
    cases h
    exact ⟨a, b, h1, h2, rfl⟩
  · cases h
theorem cEs_one {S : Sta} {n p : Nat} {e : Expr} {es : List Expr} {cs : List C} (h : cEs S n p (e :: es) = some cs) : NoStar e ∧ ∃ m q b, cEs S m q es = some b := by
  cases n with
  | zero => simp [cEs] at h
  | succ n =>
    obtain ⟨a, b, h1, h2, _⟩ := cEs_cons h
    exact ⟨nostar_of h1, n, _, b, h2⟩
theorem args_ok {S : Sta} {n p : Nat} {es : List Expr} {cs : List C} {pos : Pos} (h : cEs S n p es = some cs) : ArgsOk X pos es cs := by
  refine ⟨fun e => ?_, fun e r er => ?_⟩
  · subst e
    cases n with
    | zero => simp [cEs] at h
    | succ n =>
      simp only [cEs, Option.some.injEq] at h
      exact h.symm
  · subst er
    obtain ⟨h1, m, q, b, h2⟩ := cEs_one h
    exact ⟨star_of h1 r X.env, stars_of h2⟩
theorem base_of {o : Expr} {attr : Str} {env : PySem.Env} {whole : Sem Value} (h : notSuper o = true) : attributeBase o attr env whole = whole := by
  unfold attributeBase
  split
  · rename_i id pos hx
    have h1 : (id != ("super" : Str)) = true := h
    simp only [h1, Bool.true_or, if_true]
  · rfl
end
end Sv
end -- Sem26
section -- Sem27
set_option Elab.async false
set_option linter.all false
set_option maxRecDepth 100000
set_option maxHeartbeats 2000000
/-! # What the compiler says holds of the text: expressions -/
namespace Sv
open PySem PySem.Spec PyProof.Rows L2

section
variable {X : Cx} {F : Fm} {G : Orc} {k : Nat} {S : Sta}
/-! ### what is nothing -/
theorem pe_bad {e : Expr} {c : C} (h : ∀ fr φ η ρ lv, ev G fr φ η c ρ lv = .bad) : PE X e (TEo F (evm G c)) := ⟨fun pins s σ H Q I ⟨μ, ρ, φ, η, fr, lv, hh, g⟩ => by
  have g : Go F (YV F) σ H μ fr lv (ev G fr φ η c ρ lv) Q := g
  rw [h] at g
  exact g.elim⟩
theorem pt_plain {e : Expr} {c : C} (h : PE X e (TEo F (evm G c))) (he : ∀ whole, isTrue e X.env whole = (do let v ← whole; standAt e.pos; holding [v] (truthy v))) : PE X e (TEo F (evm G c)) ∧ PT X e (TTo F (evb G c)) := ⟨h, pt_of_pe h he⟩
/-! ### constants, names -/
theorem sc_con {c : PySem.Const} {d : C} {j : Nat} {pos : Pos} (h : conC c = some d) : PE X (.Constant c j pos) (TEo F (evm G d)) := by
  cases c <;> first | (cases h; done) | skip
  · cases h; exact pd_con pe_non fun μ n H => rp_sc.2.2.2
  · rename_i b
    cases h
    exact pd_con pe_bl fun μ n H => rp_sc.1 _
  · cases h; exact pd_con pe_int fun μ n H => rp_sc.2.1 _
  · cases h; exact pd_con pe_str fun μ n H => rp_sc.2.2.1 _
theorem pe_mg {x : Str} {pos : Pos} {u : Value} {v : V} (hg : Gl X x) (hm : X.mg x = some u) (r : RelV v u) (hdb : (x == ("__debug__" : Str)) = false) : PE X (.Name x pos) (tC v) := ⟨fun pins s σ H Q I h => by
  refine ld_glob I hg hm ?_ hdb
  exact ⟨v, H, I, r, h⟩⟩
theorem sc_name (c : Ctx X F G k S) {x : Str} {d : C} {pos : Pos} (h : nameC S x = some d) : PE X (.Name x pos) (TEo F (evm G d)) := by
  unfold nameC at h
  split at h
  · rename_i i e
    cases h
    have e2 : slotOf S x = some i := by
      split at e
      · cases e
      · exact e
    obtain ⟨h1, h2, h3⟩ := slot_of e2
    obtain ⟨o1, o2, _⟩ := okN_of h3
    exact pd_var' (pe_var (by rw [c.nN]; exact h1) (by rw [c.sc]; exact h2) o1 o2)
  · split at h
    · rename_i hg
      split at h
      · rename_i dv hl
        cases h
        obtain ⟨u, v, h1, h2, h3⟩ := c.md.con x dv hl
        obtain ⟨o1, _, _⟩ := okN_of (glob_of hg).2
        exact pd_con (pe_mg (c.gl hg) h1 h2 o1) h3
      · cases h
    · cases h
/-! ### small forms -/
theorem pe_bool1 {op : BoolOp} {e : Expr} {t : TE} {pos : Pos} (h : PE X e t) : PE X (.BoolOp op [e] pos) t := ⟨fun pins s σ H Q I q => h.run pins s σ H Q I q⟩
theorem pt_ifx {t a b : Expr} {ct ca cb : C} {pos : Pos} (ft : Fits X F) (ht : PT X t (TTo F (evb G ct))) (ha : PT X a (TTo F (evb G ca))) (hb : PT X b (TTo F (evb G cb))) : PT X (.IfExp t a b pos) (TTo F (evb G (.ifx ct ca cb))) := by
  refine ⟨fun pins s σ H Q I ⟨μ, ρ, φ, η, fr, lv, hh, g⟩ => ?_⟩
  have e : evb G (.ifx ct ca cb) ρ φ η fr lv = (ev G fr φ η ct ρ lv).bind fun x s => (asBool x s).bind fun c s => if c then (ev G fr φ η ca ρ s).bind fun x s => asBool x s else (ev G fr φ η cb ρ s).bind fun x s => asBool x s := by
    simp only [evb, ev]
    cases ev G fr φ η ct ρ lv with
    | ok d s =>
      cases d with
      | bl k => cases k <;> rfl
      | _ => rfl
    | _ => rfl
  rw [e] at g
  show wpAny _ _ (do if ← isTrue t X.env (eval t X.env) then isTrue a X.env (eval a X.env) else isTrue b X.env (eval b X.env)) _ _ _
  refine wpAny_bind (thn (ht.run pins s σ H _ I (test_of (c := ct) (k := fun c ρ φ η fr s => if c then (ev G fr φ η ca ρ s).bind fun x s => asBool x s else (ev G fr φ η cb ρ s).bind fun x s => asBool x s) ft ⟨μ, ρ, φ, η, fr, lv, hh, g⟩)) fun d s1 ⟨H1, I1, μ1, ρ1, φ1, η1, fr1, t1, h1, k1⟩ => ?_)
  cases d with
  | true => exact ha.run pins s1 σ H1 Q I1 ⟨μ1, ρ1, φ1, η1, fr1, t1, h1, k1⟩
  | false => exact hb.run pins s1 σ H1 Q I1 ⟨μ1, ρ1, φ1, η1, fr1, t1, h1, k1⟩
theorem marks_of {S : Sta} {n p : Nat} {e : Expr} {c : C} (h : cE S n p e = some c) (op : CmpOp) : behindInMarks op e = false := by
  cases n with
  | zero => simp [cE] at h
  | succ n =>
    cases e <;> first | rfl | (simp only [cE] at h; cases h)
theorem noset_of {S : Sta} {n p : Nat} {e : Expr} {c : C} (h : cE S n p e = some c) (env : PySem.Env) (x : Value) : foldedSetIterable e env x = pure x := by
  cases n with
  | zero => simp [cE] at h
  | succ n =>
    cases e <;> first | rfl | (simp only [cE] at h; cases h)
theorem plain_ix {S : Sta} {n p : Nat} {e : Expr} {c : C} (h : cE S n p e = some c) : PlainIx e := by
  cases n with
  | zero => simp [cE] at h
  | succ n =>
    cases e <;> first | (intro o i; rfl) | (simp only [cE] at h; cases h)
/-! ### methods -/
theorem few_of {S : Sta} {env : PySem.Env} {pos : Pos} {n p : Nat} {es : List Expr} {cs : List C} (h : cEs S n p es = some cs) (hl : es.length < 25) : ((backTo pos (starEach es env)).all (fun x => !x.1) && (backToKw pos (keywordEach [] env)).all (fun x => x.1.isSome)
      && decide (es.length + ([] : List Keyword).length + (if ([] : List Keyword).isEmpty then 0 else 1) < 30)) = true := by
  rw [starsAll_of h]
  have e1 : (backToKw pos (keywordEach [] env)).all (fun x => x.1.isSome) = true := rfl
  rw [e1]
  simp only [Bool.true_and, List.length_nil, List.isEmpty_nil, if_true, decide_eq_true_eq]
  omega
theorem meth_ev {S : Sta} {o : Expr} {m : Str} {es : List Expr} {apos pos : Pos} {n p : Nat} {cs : List C} (h : cEs S n p es = some cs) (hl : es.length < 25) (hb : notSuper o = true) (hline : (apos.endLine == pos.line) = true) : MethEv X o m es [] apos pos := by
  refine ⟨do return (← importBound o X.env).getD true, ?_⟩
  have hf : methodCallForm (es.length + ([] : List Keyword).length) (backTo pos (starEach es X.env)) (backToKw pos (keywordEach [] X.env)) = true := by
    unfold methodCallForm
    have := few_of (env := X.env) (pos := pos) h hl
    exact this
  rw [arm_eval_Call, base_of hb]
  unfold methodCall
  rw [hf]
  have e2 : methodCallPos true o X.env apos pos = pure pos := by
    unfold methodCallPos
    rw [hline]
    rfl
  rw [e2]
  rfl
end
end Sv
end -- Sem27
section -- Sem28
set_option Elab.async false
set_option linter.all false
set_option maxRecDepth 100000
set_option maxHeartbeats 4000000
/-! # What the compiler says holds of the text: the induction -/
namespace Sv
open PySem PySem.Spec PyProof.Rows L2

/-! ### built-ins by their names -/
theorem biOf_inv {x : Str} {b : Bi} (h : biOf x = some b) : (x, b) ∈ ([("len", .len), ("list", .list), ("tuple", .tuple), ("dict", .dict), ("sorted", .sorted), ("abs", .abs), ("int", .int), ("str", .str), ("repr", .repr),
  ("all", .all), ("sum", .sum), ("min", .min), ("max", .max)] : List (Str × Bi)) := PySem.mem_of_lookup h
theorem bmOf_inv {x : Str} {b : Bm} (h : bmOf x = some b) : (x, b) ∈ ([("append", .append), ("extend", .extend), ("pop", .pop), ("insert", .insert), ("index", .index), ("get", .get), ("setdefault", .setdefault), ("update", .update),
  ("join", .join), ("split", .split)] : List (Str × Bm)) := PySem.mem_of_lookup h
theorem bi_nil {rp : PyData → Str} {fr lv : Sto} (b : Bi) : Sv.bi rp fr lv b [] = .bad := by cases b <;> rfl
section
variable {X : Cx} {F : Fm} {G : Orc} {k : Nat} {S : Sta}
theorem pe_nobi {b : Bi} {e : Expr} : PE X e (TEo F (evm G (.bi b []))) := pe_bad fun fr φ η ρ lv => by
  simp only [ev, evs, R.bind]
  cases b <;> exact bi_nil _
/-- a built-in function's call -/
theorem pd_biAny (c : Ctx X F G k S) (hcalm : S.exn = none) {x : Str} {b : Bi} {q pos : Pos} {args : List Expr} {cs : List C} {n p : Nat} (h : biOf x = some b) (hb : okBi b = true) (hg : isGlob S x = true) (hm : S.gl.lookup x = none) (hn : cEs S n p args = some cs)
    (ha : PA X args (TAo F (evsm G cs))) : PE X (.Call (.Name x q) args [] pos) (TEo F (evm G (.bi b cs))) := by
  have ao : ArgsOk X pos args cs := args_ok hn
  have g := c.gl hg
  have m : X.mg x = none := c.md.nn x (by
    have hmem := biOf_inv h
    simp only [List.mem_cons, Prod.mk.injEq, List.not_mem_nil, or_false] at hmem
    unfold bnames
    rcases hmem with ⟨rfl, _⟩ | ⟨rfl, _⟩ | ⟨rfl, _⟩ | ⟨rfl, _⟩ | ⟨rfl, _⟩ | ⟨rfl, _⟩ | ⟨rfl, _⟩ | ⟨rfl, _⟩ | ⟨rfl, _⟩ | ⟨rfl, _⟩ | ⟨rfl, _⟩ | ⟨rfl, _⟩ | ⟨rfl, _⟩ <;> decide) hm
  have hc : X.calm = true := by rw [c.calm, hcalm]; rfl
  obtain ⟨o1, o2, o3⟩ := okN_of (glob_of hg).2
  cases args with
  | nil =>
    obtain rfl := ao.nil rfl
    exact pe_nobi
  | cons e es =>
    obtain ⟨s1, s2⟩ := ao.st e es rfl
    have hmem := biOf_inv h
    simp only [List.mem_cons, Prod.mk.injEq, List.not_mem_nil, or_false] at hmem
    rcases hmem with ⟨rfl, rfl⟩ | ⟨rfl, rfl⟩ | ⟨rfl, rfl⟩ | ⟨rfl, rfl⟩ | ⟨rfl, rfl⟩ | ⟨rfl, rfl⟩ | ⟨rfl, rfl⟩ | ⟨rfl, rfl⟩ | ⟨rfl, rfl⟩ | ⟨rfl, rfl⟩ | ⟨rfl, rfl⟩ | ⟨rfl, rfl⟩ | ⟨rfl, rfl⟩
    · obtain ⟨pss, hl⟩ := c.md.len
      exact pd_len c.ft (c.kn hcalm) hl g m ha s1 s2
    · exact pd_biT c.ft (by decide) (cr_list' c.ft hc) g m PyProof.Rows.Boot.«list» ha o3 o1 s1 s2
    · exact pd_biT c.ft (by decide) (cr_tuple' c.ft) g m PyProof.Rows.Boot.«tuple» ha o3 o1 s1 s2
    · cases hb
    · cases hb
    · exact pd_biB c.ft (by decide) cr_abs g m PyProof.Rows.Boot.«abs» ha o3 o1 s1 s2
    · exact pd_biT c.ft (by decide) cr_int' g m PyProof.Rows.Boot.«int» ha o3 o1 s1 s2
    · exact pd_biT c.ft (by decide) cr_str' g m PyProof.Rows.Boot.«str» ha o3 o1 s1 s2
    · exact pd_biB c.ft (by decide) (cr_repr c.ft) g m PyProof.Rows.Boot.«repr» ha o3 o1 s1 s2
    · exact pd_biB c.ft (by decide) (cr_all' hc) g m PyProof.Rows.Boot.«all» ha o3 o1 s1 s2
    · exact pd_biB c.ft (by decide) (cr_sum' hc) g m PyProof.Rows.Boot.«sum» ha o3 o1 s1 s2
    · cases hb
    · cases hb
/-- a built-in method's call -/
theorem pd_bmAny (c : Ctx X F G k S) {o : Expr} {m : Str} {b : Bm} {co : C} {apos pos : Pos} {args : List Expr} {cs : List C} {n p : Nat} (h : bmOf m = some b) (hb : okBm' b = true) (hs : notSuper o = true) (hl : args.length < 25) (hline : (apos.endLine == pos.line) = true) (hn : cEs S n p args = some cs)
    (ho : PE X o (TEo F (evm G co))) (ha : PA X args (TAo F (evsm G cs))) : PE X (.Call (.Attribute o m apos) args [] pos) (TEo F (evm G (.bm b co cs))) := by
  have key : (∀ k, okBm b k = true → ∃ T id, MtK X F b m k T id) := by
    have hmem := bmOf_inv h
    simp only [List.mem_cons, Prod.mk.injEq, List.not_mem_nil, or_false] at hmem
    rcases hmem with ⟨rfl, rfl⟩ | ⟨rfl, rfl⟩ | ⟨rfl, rfl⟩ | ⟨rfl, rfl⟩ | ⟨rfl, rfl⟩ | ⟨rfl, rfl⟩ | ⟨rfl, rfl⟩ | ⟨rfl, rfl⟩ | ⟨rfl, rfl⟩ | ⟨rfl, rfl⟩
    · exact mk_append
    · exact mk_extend
    · exact mk_pop c.ft
    · exact mk_insert
    · cases hb
    · exact mk_get c.ft
    · exact mk_default c.ft
    · cases hb
    · exact mk_join c.ft
    · exact mk_split
  have ao : ArgsOk X pos args cs := args_ok hn
  cases args with
  | nil =>
    obtain rfl := ao.nil rfl
    exact pd_bm0 c.ft key ho (base_of hs) hline
  | cons e es =>
    obtain ⟨s1, s2⟩ := ao.st e es rfl
    exact pd_bm c.ft key ho ha (base_of hs) (few_of hn hl) hline s1 s2
end
end Sv
end -- Sem28
section -- Sem29
set_option Elab.async false
set_option linter.all false
set_option maxRecDepth 100000
set_option maxHeartbeats 4000000
/-! # What the compiler says holds of the text: the induction -/
namespace Sv
open PySem PySem.Spec PyProof.Rows L2

/-- all of it, at a depth -/
structure SndE (G : Orc) (n : Nat) : Prop where
  e : ∀ {X F k S p e c}, Ctx X F G k S → cE S n p e = some c → okC c = true → PE X e (TEo F (evm G c)) ∧ PT X e (TTo F (evb G c))
  cmp : ∀ {X F k S p a ops bs c pos}, Ctx X F G k S → cCmp S n p a ops bs = some c → okC c = true → PE X (.Compare a ops bs pos) (TEo F (evm G c)) ∧ PT X (.Compare a ops bs pos) (TTo F (evb G c))
  bool : ∀ {X F k S p op es c pos}, Ctx X F G k S → cBool S n p op es = some c → okC c = true → PE X (.BoolOp op es pos) (TEo F (evm G c)) ∧ PW X (.BoolOp op es pos) (TTo F (evb G c))
  o : ∀ {X F k S p e c}, Ctx X F G k S → cO S n p e = some c → okO c = true → PO X e (TOo F (evom G c))
  d : ∀ {X F k S p e c}, Ctx X F G k S → cD S n p e = some c → okO c = true → (e = none ∧ c = none) ∨ ∃ e' c', e = some e' ∧ c = some c' ∧ PT X e' (TTo F (evb G c'))
  es : ∀ {X F k S p es cs}, Ctx X F G k S → cEs S n p es = some cs → okCs cs = true → PA X es (TAo F (evsm G cs))
  fs : ∀ {X F k S p es cs}, Ctx X F G k S → cFs S n p es = some cs → okCs cs = true → PFs X F G es cs
  cn : ∀ {X F k S p x args kws c q pos}, Ctx X F G k S → cCn S n p x args kws = some c → okC c = true → PE X (.Call (.Name x q) args kws pos) (TEo F (evm G c))
  ca : ∀ {X F k S p o m apos args kws pos c}, Ctx X F G k S → cCa S n p o m apos args kws pos = some c → okC c = true → PE X (.Call (.Attribute o m apos) args kws pos) (TEo F (evm G c))
  b : ∀ {X F k S p x args kws c q pos}, Ctx X F G k S → cB S n p x args kws = some c → okC c = true → isGlob S x = true → S.gl.lookup x = none → PE X (.Call (.Name x q) args kws pos) (TEo F (evm G c))
  i : ∀ {X F k S p tp e c tg}, Ctx X F G k S → cI S n p tp e = some c → okIt c = true → tp = isTupE tg → PI X tg e (TIo X F (evIm G c))
  t : ∀ {X F k S p e t own}, Ctx X F G k S → X.calm = true → cT S n p e = some t → (∀ i ∈ namesT t, i ∈ own) → (∀ x i, targetOf S x = some i → i ∈ namesT t → X.fn x = true ∨ X.env.scope.names.lookup x = some .local) → PG X e (TGn F own t)
  ts : ∀ {X F k S p es ts own}, Ctx X F G k S → X.calm = true → cTs S n p es = some ts → (∀ i ∈ namesTs ts, i ∈ own) → (∀ x i, targetOf S x = some i → i ∈ namesTs ts → X.fn x = true ∨ X.env.scope.names.lookup x = some .local) → PGs X es (TGns F own ts)
section
variable {G : Orc}
theorem sndE0 : SndE G 0 := by
  refine ⟨?_, ?_, ?_, ?_, ?_, ?_, ?_, ?_, ?_, ?_, ?_, ?_, ?_⟩
  · intro X F k S p e c _ h; simp [cE] at h
  · intro X F k S p a ops bs c pos _ h; simp [cCmp] at h
  · intro X F k S p op es c pos _ h; simp [cBool] at h
  · intro X F k S p e c _ h; simp [cO] at h
  · intro X F k S p e c _ h; simp [cD] at h
  · intro X F k S p es cs _ h; simp [cEs] at h
  · intro X F k S p es cs _ h; simp [cFs] at h
  · intro X F k S p x args kws c q pos _ h; simp [cCn] at h
  · intro X F k S p o m apos args kws pos c _ h; simp [cCa] at h
  · intro X F k S p x args kws c q pos _ h; simp [cB] at h
  · intro X F k S p tp e c tg _ h; simp [cI] at h
  · intro X F k S p e t own _ _ h; simp [cT] at h
  · intro X F k S p es ts own _ _ h; simp [cTs] at h
theorem ok2 {a b : Bool} (h : (a && b) = true) : a = true ∧ b = true := by simpa using h
theorem ok3 {a b c : Bool} (h : (a && b && c) = true) : a = true ∧ b = true ∧ c = true := by
  simp only [Bool.and_eq_true] at h
  exact ⟨h.1.1, h.1.2, h.2⟩
section
variable {n : Nat} (ih : SndE G n)
include ih
variable {X : Cx} {F : Fm} {k : Nat} {S : Sta}
theorem snd_cmp {p a ops bs c pos} (x : Ctx X F G k S) (h : cCmp S (n + 1) p a ops bs = some c) (hk : okC c = true) : PE X (.Compare a ops bs pos) (TEo F (evm G c)) ∧ PT X (.Compare a ops bs pos) (TTo F (evb G c)) := by
  match ops, bs, h with
  | [op], [b], h =>
    simp only [cCmp] at h
    split at h
    · rename_i u v h1 h2
      cases h
      obtain ⟨k1, k2⟩ := ok2 hk
      have m := marks_of h2 op
      exact ⟨pd_cmp' x.ft m (ih.e x h1 k1).1 (ih.e x h2 k2).1, pd_tcmp x.ft m (ih.e x h1 k1).1 (ih.e x h2 k2).1⟩
    · cases h
  | [op, oq], [b, d], h =>
    simp only [cCmp] at h
    split at h
    · rename_i u v w h1 h2 h3
      cases h
      obtain ⟨k1, k2, k3⟩ := ok3 hk
      have m : lastMarks [op, oq] [b, d] = false := marks_of h3 oq
      exact ⟨pd_chain x.ft m (ih.e x h1 k1).1 (ih.e x h2 k2).1 (ih.e x h3 k3).1, pd_tchain x.ft m (ih.e x h1 k1).1 (ih.e x h2 k2).1 (ih.e x h3 k3).1⟩
    · cases h
  | [], _, h => simp [cCmp] at h
  | [_], [], h => simp [cCmp] at h
  | [_], _ :: _ :: _, h => simp [cCmp] at h
  | [_, _], [], h => simp [cCmp] at h
  | [_, _], [_], h => simp [cCmp] at h
  | [_, _], _ :: _ :: _ :: _, h => simp [cCmp] at h
  | _ :: _ :: _ :: _, _, h => simp [cCmp] at h
theorem snd_bool {p op es c pos} (x : Ctx X F G k S) (h : cBool S (n + 1) p op es = some c) (hk : okC c = true) : PE X (.BoolOp op es pos) (TEo F (evm G c)) ∧ PW X (.BoolOp op es pos) (TTo F (evb G c)) := by
  cases es with
  | nil => simp [cBool] at h
  | cons e es =>
    simp only [cBool] at h
    cases es with
    | nil =>
      have h : cE S n p e = some c := h
      obtain ⟨h1, h2⟩ := ih.e x h hk
      refine ⟨pe_bool1 h1, ?_⟩
      cases op with
      | And => exact pw_and1 h2
      | Or => exact pw_or1 h2
    | cons b rest =>
      rw [if_neg (by simp)] at h
      cases h1 : cE S n (2 * p) e with
      | none => rw [h1] at h; cases h
      | some u =>
        cases h2 : cBool S n (2 * p + 1) op (b :: rest) with
        | none => rw [h1, h2] at h; cases h
        | some v =>
          rw [h1, h2] at h
          cases op with
          | And =>
            cases h
            obtain ⟨k1, k2⟩ := ok2 (show (okC u && okC v) = true from hk)
            obtain ⟨a1, a2⟩ := ih.e x h1 k1
            obtain ⟨b1, b2⟩ := ih.bool (pos := pos) x h2 k2
            exact ⟨pd_and x.ft a1 b1, pd_wand x.ft a2 b2⟩
          | Or =>
            cases h
            obtain ⟨k1, k2⟩ := ok2 (show (okC u && okC v) = true from hk)
            obtain ⟨a1, a2⟩ := ih.e x h1 k1
            obtain ⟨b1, b2⟩ := ih.bool (pos := pos) x h2 k2
            exact ⟨pd_or x.ft a1 b1, pd_wor x.ft a2 b2⟩
theorem snd_o {p e c} (x : Ctx X F G k S) (h : cO S (n + 1) p e = some c) (hk : okO c = true) : PO X e (TOo F (evom G c)) := by
  cases e with
  | none =>
    simp only [cO, Option.some.injEq] at h
    subst h
    exact po_n
  | some e =>
    simp only [cO] at h
    obtain ⟨c', h1, rfl⟩ := Option.map_eq_some_iff.mp h
    exact po_s x.ft (ih.e x h1 hk).1
theorem snd_d {p e c} (x : Ctx X F G k S) (h : cD S (n + 1) p e = some c) (hk : okO c = true) : (e = none ∧ c = none) ∨ ∃ e' c', e = some e' ∧ c = some c' ∧ PT X e' (TTo F (evb G c')) := by
  cases e with
  | none =>
    simp only [cD, Option.some.injEq] at h
    exact .inl ⟨rfl, h.symm⟩
  | some e =>
    simp only [cD] at h
    obtain ⟨c', h1, rfl⟩ := Option.map_eq_some_iff.mp h
    exact .inr ⟨e, c', rfl, rfl, (ih.e x h1 hk).2⟩
theorem snd_es {p es cs} (x : Ctx X F G k S) (h : cEs S (n + 1) p es = some cs) (hk : okCs cs = true) : PA X es (TAo F (evsm G cs)) := by
  cases es with
  | nil =>
    simp only [cEs, Option.some.injEq] at h
    subst h
    exact pd_nil
  | cons e es =>
    obtain ⟨a, b, h1, h2, rfl⟩ := cEs_cons h
    obtain ⟨k1, k2⟩ := ok2 hk
    exact pd_cons x.ft (ih.e x h1 k1).1 (ih.es x h2 k2) (star_of (nostar_of h1) es X.env)
theorem snd_fs {p es cs} (x : Ctx X F G k S) (h : cFs S (n + 1) p es = some cs) (hk : okCs cs = true) : PFs X F G es cs := by
  cases es with
  | nil =>
    simp only [cFs, Option.some.injEq] at h
    subst h
    exact .nil
  | cons e es =>
    simp only [cFs] at h
    cases e <;> first | (simp only [fkOf] at h; cases h; done) | skip
    · rename_i v cv sp q
      simp only [fkOf] at h
      split at h
      · rename_i w hw
        split at hw
        · rename_i hc
          cases hw
          split at h
          · rename_i a b h1 h2
            cases h
            obtain ⟨k1, k2⟩ := ok2 hk
            simp only [Bool.and_eq_true, beq_iff_eq] at hc
            obtain ⟨rfl, hs⟩ := hc
            cases sp with
            | some _ => cases hs
            | none => exact .fmt (ih.e x h1 k1).1 (ih.fs x h2 k2)
          · cases h
        · cases hw
      · rename_i hw; split at hw <;> cases hw
      · cases h
    · rename_i c j q
      cases c <;> first | (simp only [fkOf] at h; cases h; done) | skip
      rename_i z
      simp only [fkOf] at h
      split at h
      · rename_i hw; split at hw <;> cases hw
      · rename_i w hw
        split at hw
        · rename_i hz
          cases hw
          obtain ⟨b, h1, rfl⟩ := Option.map_eq_some_iff.mp h
          exact .txt hz (ih.fs x h1 (ok2 hk).2)
        · cases hw
      · cases h
end
end
end Sv
end -- Sem29
section -- Sem30
set_option Elab.async false
set_option linter.all false
set_option maxRecDepth 100000
set_option maxHeartbeats 4000000
/-! # What the compiler says holds of the text: calls, walks, targets, all -/
namespace Sv
open PySem PySem.Spec PyProof.Rows L2

theorem callGl_none {S : Sta} {x : Str} (h : callGl S x = none) : S.gl.lookup x = none := by
  unfold callGl at h
  split at h
  · cases h
  · exact h
theorem callGl_fn {S : Sta} {x : Str} {id ps b} (h : callGl S x = some (.fn id ps b)) : S.exn = none ∧ S.gl.lookup x = some (.fn id ps b) := by
  unfold callGl at h
  split at h
  · cases h
  · rename_i c
    refine ⟨?_, h⟩
    rw [h] at c
    simpa using c
theorem callGl_cls {S : Sta} {x : Str} {id ps} (h : callGl S x = some (.cls id ps)) : S.exn = none ∧ S.gl.lookup x = some (.cls id ps) := by
  unfold callGl at h
  split at h
  · cases h
  · rename_i c
    refine ⟨?_, h⟩
    rw [h] at c
    simpa using c
theorem nil_of {α : Type} {l : List α} (h : l.isEmpty = true) : l = [] := by cases l <;> first | rfl | cases h
section
variable {G : Orc} {n : Nat} (ih : SndE G n)
include ih
variable {X : Cx} {F : Fm} {k : Nat} {S : Sta}
theorem snd_cn {p x args kws c q pos} (cx : Ctx X F G k S) (h : cCn S (n + 1) p x args kws = some c) (hk : okC c = true) : PE X (.Call (.Name x q) args kws pos) (TEo F (evm G c)) := by
  simp only [cCn] at h
  split at h
  · split at h
    · obtain ⟨cs, _, rfl⟩ := Option.map_eq_some_iff.mp h
      cases hk
    · cases h
  · split at h
    case isFalse => cases h
    case isTrue hg =>
    obtain ⟨o1, o2, o3⟩ := okN_of (glob_of hg).2
    split at h
    · rename_i id ps fs hl
      obtain ⟨he, hl⟩ := callGl_fn hl
      have fin : ∀ {cs}, cEs S n p args = some cs → kws = [] → okCs cs = true → PE X (.Call (.Name x q) args kws pos) (TEo F (evm G (.call id cs))) := fun {cs} h1 hw k1 => by
        subst hw
        exact pd_call cx.ft (cx.kn he) hl (cx.gl hg) o1 (ih.es cx h1 k1) (args_ok h1)
      split at h
      · rename_i hkw
        have hw := nil_of hkw
        split at h
        · split at h
          · split at h
            · cases h; cases hk
            · cases h
          · obtain ⟨cs, h1, rfl⟩ := Option.map_eq_some_iff.mp h
            exact fin h1 hw hk
        · obtain ⟨cs, h1, rfl⟩ := Option.map_eq_some_iff.mp h
          exact fin h1 hw hk
      · split at h
        · split at h
          · cases h; cases hk
          · cases h
        · cases h
    · rename_i cc ps hl
      obtain ⟨he, hl⟩ := callGl_cls hl
      split at h
      · rename_i hkw
        have hw := nil_of hkw
        subst hw
        obtain ⟨cs, h1, rfl⟩ := Option.map_eq_some_iff.mp h
        exact pd_make cx.ft (cx.kn he) hl (cx.gl hg) o1 (ih.es cx h1 hk) (args_ok h1)
      · split at h
        · split at h
          · cases h; cases hk
          · cases h
        · cases h
    · cases h
    · rename_i hl
      exact ih.b cx h hk hg (callGl_none hl)
theorem snd_ca {p o m apos args kws pos c} (cx : Ctx X F G k S) (h : cCa S (n + 1) p o m apos args kws pos = some c) (hk : okC c = true) : PE X (.Call (.Attribute o m apos) args kws pos) (TEo F (evm G c)) := by
  simp only [cCa] at h
  split at h
  · cases h
  · rename_i hs
    have hs : notSuper o = true ∧ (apos.endLine == pos.line) = true ∧ args.length + kws.length < 25 := by
      simp only [Bool.not_eq_true', Bool.and_eq_false_imp, Bool.not_eq_false, Bool.and_eq_true, decide_eq_true_eq, not_and] at hs
      simpa [and_assoc] using hs
    obtain ⟨s1, s2, s3⟩ := hs
    split at h
    · rename_i b hb
      split at h
      · rename_i hkw
        obtain rfl := nil_of hkw
        split at h
        · rename_i xo es h1 h2
          cases h
          obtain ⟨k1, k2, k3⟩ := ok3 hk
          exact pd_bmAny cx hb k1 s1 (by omega) s2 h2 (ih.e cx h1 k2).1 (ih.es cx h2 k3)
        · cases h
      · cases h
    · split at h
      · cases h
      · rename_i hex
        have he : S.exn = none := by simpa using hex
        split at h
        · rename_i i pss hm
          split at h
          · rename_i hkw
            obtain rfl := nil_of hkw
            split at h
            · rename_i xo es h1 h2
              cases h
              obtain ⟨k1, k2⟩ := ok2 hk
              exact pd_meth cx.ft (cx.kn he) hm (ih.e cx h1 k1).1 (ih.es cx h2 k2) (args_ok h2) (meth_ev h2 (by omega) s1 s2)
            · cases h
          · split at h
            · split at h
              · cases h; cases hk
              · cases h
            · cases h
        · cases h
theorem snd_b {p x args kws c q pos} (cx : Ctx X F G k S) (h : cB S (n + 1) p x args kws = some c) (hk : okC c = true) (hg : isGlob S x = true) (hm : S.gl.lookup x = none) : PE X (.Call (.Name x q) args kws pos) (TEo F (evm G c)) := by
  simp only [cB] at h
  split at h
  · split at h
    · split at h
      · obtain ⟨c', _, rfl⟩ := Option.map_eq_some_iff.mp h
        cases hk
      · cases h; cases hk
      · cases h
    · cases h
  · split at h
    · rename_i hkw
      obtain rfl := nil_of hkw
      split at h
      · obtain ⟨c', _, rfl⟩ := Option.map_eq_some_iff.mp h
        cases hk
      · obtain ⟨c', _, rfl⟩ := Option.map_eq_some_iff.mp h
        cases hk
      · obtain ⟨c', _, rfl⟩ := Option.map_eq_some_iff.mp h
        cases hk
      · obtain ⟨c', _, rfl⟩ := Option.map_eq_some_iff.mp h
        cases hk
      · split at h
        · cases h
        · rename_i hex
          have he : S.exn = none := by simpa using hex
          split at h
          · rename_i b hb
            obtain ⟨cs, h1, rfl⟩ := Option.map_eq_some_iff.mp h
            obtain ⟨k1, k2⟩ := ok2 hk
            exact pd_biAny cx he hb k1 hg hm h1 (ih.es cx h1 k2)
          · cases h
    · split at h
      · split at h
        · cases h
        · split at h
          · obtain ⟨c', _, rfl⟩ := Option.map_eq_some_iff.mp h
            cases hk
          · split at h
            · split at h
              · cases h; cases hk
              · split at h
                · cases h; cases hk
                · cases h
            · cases h
      · cases h
end
/-! ### what a loop walks -/
theorem ck_nam {f : Expr} {y : Str} (h : ckOf f = .nam y) : ∃ q, f = .Name y q := by
  cases f <;> first | (cases h; done) | (cases h; exact ⟨_, rfl⟩)
theorem ck_att {f o : Expr} {m : Str} {apos : Pos} (h : ckOf f = .att o m apos) : f = .Attribute o m apos := by
  cases f <;> first | (cases h; done) | (cases h; rfl)
section
variable {G : Orc} {n : Nat} (ih : SndE G n)
include ih
variable {X : Cx} {F : Fm} {k : Nat} {S : Sta}
theorem builtin_of {y : Str} (cx : Ctx X F G k S) (h : builtin? S y = true) (hy : y ∈ bnames) : Gl X y ∧ X.mg y = none := by
  unfold builtin? at h
  simp only [Bool.and_eq_true] at h
  exact ⟨cx.gl h.1, cx.md.nn y hy (by simpa using h.2)⟩
theorem snd_i {p tp e c tg} (cx : Ctx X F G k S) (h : cI S (n + 1) p tp e = some c) (hk : okIt c = true) (htg : tp = isTupE tg) : PI X tg e (TIo X F (evIm G c)) := by
  simp only [cI] at h
  have val : ∀ {c'}, cE S n p e = some c' → okC c' = true → PI X tg e (TIo X F (evIm G (.val c'))) := fun {c'} h1 k1 => pd_val cx.ft (ih.e cx h1 k1).1 (pi_dct cx.ft (ih.e cx h1 k1).1)
  cases e with
  | Call f args kws pos =>
    simp only [ikOf] at h
    cases hf : ckOf f with
    | bad =>
      simp only [hf] at h
      obtain ⟨c', h1, rfl⟩ := Option.map_eq_some_iff.mp h
      exact val h1 hk
    | nam y =>
      simp only [hf] at h
      obtain ⟨q, rfl⟩ := ck_nam hf
      unfold ikN at h
      by_cases hb : builtin? S y = true
      case neg =>
        have : (!builtin? S y) = true := by simpa using hb
        rw [if_pos this] at h
        obtain ⟨c', h1, rfl⟩ := Option.map_eq_some_iff.mp h
        exact val h1 hk
      have hb' : ¬ (!builtin? S y) = true := by simpa using hb
      rw [if_neg hb'] at h
      by_cases h1 : (y == ("range" : Str)) = true
      · rw [if_pos h1] at h
        obtain rfl : y = "range" := by simpa using h1
        obtain ⟨g, m⟩ := builtin_of ih cx hb (by decide)
        match args, h with
        | [], h => cases h
        | [b], h =>
          by_cases hkw : kws.isEmpty = true
          case neg => simp only [hkw] at h; cases h
          obtain rfl := nil_of hkw
          simp only [List.isEmpty_nil, if_true] at h
          obtain ⟨c', h2, rfl⟩ := Option.map_eq_some_iff.mp h
          have pa : PA X [b] (TAo F (evsm G [c'])) := pd_cons cx.ft (ih.e cx h2 hk).1 pd_nil (star_of (nostar_of h2) [] X.env)
          exact pd_rng1 cx.ft g m pa (star_of (nostar_of h2) [] X.env)
        | [a, b], h =>
          by_cases hkw : kws.isEmpty = true
          case neg => simp only [hkw] at h; cases h
          obtain rfl := nil_of hkw
          simp only [List.isEmpty_nil, if_true] at h
          split at h
          · rename_i ca cb h2 h3
            cases h
            obtain ⟨k1, k2⟩ := ok2 hk
            have s2 : starEach [b] X.env = [(false, eval b X.env)] := star_of (nostar_of h3) [] X.env
            have s1 : starEach [a, b] X.env = [(false, eval a X.env), (false, eval b X.env)] := by rw [star_of (nostar_of h2), s2]
            have pa : PA X [a, b] (TAo F (evsm G [ca, cb])) := pd_cons cx.ft (ih.e cx h2 k1).1 (pd_cons cx.ft (ih.e cx h3 k2).1 pd_nil s2) (star_of (nostar_of h2) _ X.env)
            exact pd_rng2 cx.ft g m pa s1 s2
          · cases h
        | _ :: _ :: _ :: _, h => cases h
      · rw [if_neg h1] at h
        by_cases h2 : (y == ("enumerate" : Str)) = true
        · rw [if_pos h2] at h
          match args, h with
          | [], h => cases h
          | [b], h =>
            simp only at h
            split at h
            all_goals first | (cases h; done) | skip
            all_goals (rename_i hq; split at hq <;> first | (cases hq; done) | skip)
            all_goals first | (cases h; done) | (obtain ⟨c', _, rfl⟩ := Option.map_eq_some_iff.mp h; cases hk)
          | _ :: _ :: _, h => cases h
        · rw [if_neg h2] at h
          by_cases h3 : (y == ("zip" : Str)) = true
          · rw [if_pos h3] at h
            cases hso : strictOf kws with
            | none =>
              rw [hso] at h
              rcases args with _ | ⟨a, _ | ⟨b, _ | ⟨d, r⟩⟩⟩ <;> cases h
            | some st =>
              rw [hso] at h
              rcases args with _ | ⟨a, _ | ⟨b, _ | ⟨d, r⟩⟩⟩
              · cases h
              · cases h
              · cases tp with
                | false => cases h
                | true =>
                  simp only [if_true] at h
                  split at h
                  · cases h; cases hk
                  · cases h
              · cases h
          · rw [if_neg h3] at h
            obtain ⟨c', h4, rfl⟩ := Option.map_eq_some_iff.mp h
            exact val h4 hk
    | att o m apos =>
      simp only [hf] at h
      obtain rfl := ck_att hf
      unfold ikA at h
      by_cases h1 : (m == ("items" : Str) && args.isEmpty && kws.isEmpty) = true
      · rw [if_pos h1] at h
        simp only [Bool.and_eq_true] at h1
        obtain ⟨⟨h1, h2⟩, h3⟩ := h1
        obtain rfl := nil_of h2
        obtain rfl := nil_of h3
        obtain rfl : m = "items" := by simpa using h1
        by_cases h4 : (tp && notSuper o && apos.endLine == pos.line) = true
        · rw [if_pos h4] at h
          simp only [Bool.and_eq_true] at h4
          obtain ⟨⟨h4, h5⟩, h6⟩ := h4
          simp only at h
          obtain ⟨c', h7, rfl⟩ := Option.map_eq_some_iff.mp h
          rw [htg] at h4
          cases tg <;> first | (cases h4; done) | skip
          exact pd_itm cx.ft (ih.e cx h7 hk).1 (base_of h5) h6
        · rw [if_neg h4] at h
          cases h
      · rw [if_neg h1] at h
        obtain ⟨c', h4, rfl⟩ := Option.map_eq_some_iff.mp h
        exact val h4 hk
  | _ =>
    simp only [ikOf] at h
    obtain ⟨c', h1, rfl⟩ := Option.map_eq_some_iff.mp h
    exact val h1 hk
end
end Sv
end -- Sem30
section -- Sem31
set_option Elab.async false
set_option linter.all false
set_option maxRecDepth 100000
set_option maxHeartbeats 4000000
/-! # What the compiler says holds of the text: targets, blocks, all expressions -/
namespace Sv
open PySem PySem.Spec PyProof.Rows L2

/-! ### targets of names -/
theorem assign_one {e : Expr} (h : ∀ t p, e ≠ .Starred t p) (es : List Expr) (env : PySem.Env) : assignEach (e :: es) env = (false, assign e env) :: assignEach es env := by
  cases e <;> first | rfl | exact absurd rfl (h _ _)
theorem cT_star {S : Sta} {n p : Nat} {e : Expr} {t : T} (h : cT S n p e = some t) : ∀ t p, e ≠ .Starred t p := by
  intro t p z
  subst z
  cases n with
  | zero => simp [cT] at h
  | succ n => simp [cT] at h
theorem cTs_cons {S : Sta} {n p : Nat} {e : Expr} {es : List Expr} {ts : List T} (h : cTs S (n + 1) p (e :: es) = some ts) : ∃ a b, cT S n (2 * p) e = some a ∧ cTs S n (2 * p + 1) es = some b ∧ ts = a :: b := by
  simp only [cTs] at h
  split at h
  · rename_i a b h1 h2
    cases h
    exact ⟨a, b, h1, h2, rfl⟩
  · cases h
theorem cTs_each {S : Sta} {env : PySem.Env} : ∀ {n p : Nat} {es : List Expr} {ts : List T}, cTs S n p es = some ts → (assignEach es env).length = ts.length ∧ (assignEach es env).findIdx? (·.1) = none
  | 0, p, es, ts, h => by simp [cTs] at h
  | n + 1, p, [], ts, h => by
    simp only [cTs, Option.some.injEq] at h
    subst h
    exact ⟨rfl, rfl⟩
  | n + 1, p, e :: es, ts, h => by
    obtain ⟨a, b, h1, h2, rfl⟩ := cTs_cons h
    obtain ⟨i1, i2⟩ := cTs_each (env := env) h2
    rw [assign_one (cT_star h1)]
    refine ⟨by simp [i1], ?_⟩
    rw [List.findIdx?_cons, i2]
    rfl
section
variable {G : Orc} {n : Nat} (ih : SndE G n)
include ih
variable {X : Cx} {F : Fm} {k : Nat} {S : Sta}
theorem snd_t {p e t own} (cx : Ctx X F G k S) (hc : X.calm = true) (h : cT S (n + 1) p e = some t) (ho : ∀ i ∈ namesT t, i ∈ own) (hf : ∀ x i, targetOf S x = some i → i ∈ namesT t → X.fn x = true ∨ X.env.scope.names.lookup x = some .local) : PG X e (TGn F own t) := by
  cases e <;> first | (simp only [cT] at h; cases h; done) | skip
  case Tuple es m q =>
    simp only [cT] at h
    obtain ⟨ts, h1, rfl⟩ := Option.map_eq_some_iff.mp h
    obtain ⟨l1, l2⟩ := cTs_each (env := X.env) h1
    exact gn_tup cx.ft hc (ih.ts cx hc h1 ho hf) l1 l2 rfl
  case Subscript o i q =>
    simp only [cT] at h
    split at h
    · cases h
      exact ⟨fun pins s σ H v u Q I r ⟨μ, ρ, φ, η, fr, lv, d, ρ', hh, rr, e, g⟩ => by simp [asgN] at e⟩
    · cases h
  case Name x q =>
    simp only [cT] at h
    obtain ⟨i, h1, rfl⟩ := Option.map_eq_some_iff.mp h
    obtain ⟨t1, t2, _, _⟩ := target_of h1
    have hi : i ∈ namesT (.nm i) := by simp [namesT]
    exact gn_name (ho i hi) cx.ft.nd (by rw [cx.nN]; exact t1) (by rw [cx.sc]; exact t2) (hf x i h1 hi) (cx.slot' h1)
theorem snd_ts {p es ts own} (cx : Ctx X F G k S) (hc : X.calm = true) (h : cTs S (n + 1) p es = some ts) (ho : ∀ i ∈ namesTs ts, i ∈ own) (hf : ∀ x i, targetOf S x = some i → i ∈ namesTs ts → X.fn x = true ∨ X.env.scope.names.lookup x = some .local) : PGs X es (TGns F own ts) := by
  cases es with
  | nil =>
    simp only [cTs, Option.some.injEq] at h
    subst h
    exact gns_nil
  | cons e es =>
    obtain ⟨a, b, h1, h2, rfl⟩ := cTs_cons h
    have m : ∀ i, i ∈ namesTs (a :: b) ↔ i ∈ namesT a ∨ i ∈ namesTs b := fun i => by simp [namesTs]
    exact gns_cons (ih.t cx hc h1 (fun i hi => ho i ((m i).mpr (.inl hi))) fun x i t hi => hf x i t ((m i).mpr (.inl hi)))
      (ih.ts cx hc h2 (fun i hi => ho i ((m i).mpr (.inr hi))) fun x i t hi => hf x i t ((m i).mpr (.inr hi))) (by rw [assign_one (cT_star h1)]; rfl)
end
/-! ### a comprehension's block -/
section
variable {X : Cx} {F : Fm} {G : Orc} {k : Nat} {S : Sta}
theorem Ctx.blk (c : Ctx X F G k S) (hx : S.exn = none) (s : Shared) (H : Hp) (scope : Scope) (C : Addr) (cl : List (Str × Addr)) (fp : List Addr) : Ctx (X.blk s H scope (compEnvC scope cl C X.env) fp) F.blk G k { S with sc := relN scope S.sc } := by
  refine ⟨fits_blk c.ft s H scope _ fp, ?_, c.nN, ⟨c.md.con, c.md.nn, c.md.ats, c.md.cf, c.md.exf, c.md.len⟩, fun h => ?_, c.calm, fun j hj => absurd hj (Nat.not_lt_zero j), fun n hn => ?_, fun _ => rfl⟩
  · show relabel scope X.env = relN scope S.sc
    rw [← c.sc]
    rfl
  · obtain ⟨a, b, d, e, g⟩ := c.kn h
    exact ⟨a, b, d, e, g⟩
  · have hn : S.exn = some n := hn
    rw [hx] at hn
    cases hn
theorem blk_ok {N : List Str} {sc scope : Scope} {own : List (Str × Nat)} (h : blkB N sc scope own = true) : BlkOk N sc scope own := by
  unfold blkB at h
  simp only [Bool.and_eq_true, List.all_eq_true, beq_iff_eq] at h
  obtain ⟨⟨⟨⟨h1, h2⟩, h3⟩, h4⟩, h5⟩ := h
  have own_ : ∀ (y : Str), (own.any (fun p => p.1 == y) || !N.contains y) = true → y ∈ own.map (·.1) ∨ y ∉ N := fun y hy => by
    simp only [Bool.or_eq_true, List.any_eq_true, beq_iff_eq, Bool.not_eq_true', List.contains_eq_mem, decide_eq_false_iff_not] at hy
    rcases hy with ⟨p, hp, e⟩ | hy
    · exact .inl (List.mem_map.mpr ⟨p, hp, e⟩)
    · exact .inr hy
  refine ⟨h1, h2, h3, fun y hy e => ?_, fun y hy e => ?_⟩
  · have q := h5 y hy
    simp only [e, Bool.or_eq_true, beq_iff_eq] at q
    exact q
  · have q := h5 y hy
    rcases e with e | e <;> (simp only [e] at q; exact own_ _ q)
theorem blk_own {N : List Str} {sc scope : Scope} {own : List (Str × Nat)} (h : blkB N sc scope own = true) {p : Str × Nat} (hp : p ∈ own) : scope.names.lookup p.1 = some .local ∨ scope.names.lookup p.1 = some .cell := by
  unfold blkB at h
  simp only [Bool.and_eq_true, List.all_eq_true, beq_iff_eq] at h
  have := h.1.2 p hp
  simpa using this
theorem own_snd {N : List Str} {is : List Nat} : (ownOf N is).map (·.2) = is := by
  unfold ownOf
  rw [List.map_map]
  conv => rhs; rw [← List.map_id is]
  rfl
theorem noset_i {tp : Bool} {n p : Nat} {e : Expr} {c : I} (h : cI S n p tp e = some c) (env : PySem.Env) (x : Value) : foldedSetIterable e env x = pure x := by
  cases n with
  | zero => simp [cI] at h
  | succ n =>
    cases e <;> first | rfl | skip
    simp only [cI, ikOf] at h
    obtain ⟨c', h1, _⟩ := Option.map_eq_some_iff.mp h
    exact noset_of h1 env x
theorem one_none {gs : List Comprehension} {tg iter : Expr} {cd : Option Expr} (h : oneFor gs = some (tg, iter, cd)) : gs = [⟨tg, iter, cd.toList, 0⟩] := by
  unfold oneFor at h
  split at h
  · cases h; rfl
  · cases h; rfl
  · cases h
theorem relN_local {scope sc : Scope} {x : Str} (h : scope.names.lookup x = some .local) : (relN scope sc).names.lookup x = some .local :=
  lookup_relabel_local (env := { scope := sc, locals := 0, globals := 0, cells := [], qual := "", func := none, code := .none, frame := none, builtins := 0 }) h
end
section
variable {G : Orc} {n : Nat} (ih : SndE G n)
include ih
variable {X : Cx} {F : Fm} {k : Nat} {S : Sta}
/-- the parts of a list comprehension -/
theorem lc_parts {p : Nat} {elt : Expr} {gs : List Comprehension} {scope : Scope} {q : Pos} {c : C} (cx : Ctx X F G k S) (h : cE S (n + 1) p (.ListComp elt gs scope q) = some c) (hk : okC c = true) :
    ∃ tg iter ifs own e t it cond, gs = [⟨tg, iter, ifs, 0⟩] ∧ c = .lc e (own.map (·.2)) t it cond ∧ X.calm = true ∧ PI X tg iter (TIo X F (evIm G it)) ∧ BlkOk X.N X.env.scope scope own ∧
    (∀ (s : Shared) (H : Hp) (C : Addr) (cl : List (Str × Addr)) (fp : List Addr), PG (X.blk s H scope (compEnvC scope cl C X.env) fp) tg (TGn F.blk (own.map (·.2)) t)) ∧
    (∀ (s : Shared) (H : Hp) (C : Addr) (cl : List (Str × Addr)) (fp : List Addr), PTs (X.blk s H scope (compEnvC scope cl C X.env) fp) ifs (tCond F G cond)) ∧
    (∀ (s : Shared) (H : Hp) (C : Addr) (cl : List (Str × Addr)) (fp : List Addr), PE (X.blk s H scope (compEnvC scope cl C X.env) fp) elt (TEo F.blk (evm G e))) ∧ (∀ x, foldedSetIterable iter X.env x = pure x) := by
  simp only [cE] at h
  split at h
  case h_2 => cases h
  rename_i tg iter cd ho
  obtain rfl := one_none ho
  split at h
  case h_2 => cases h
  rename_i it t e cond h1 h2 h3 h4
  split at h
  case isFalse => cases h
  rename_i hb
  cases h
  simp only [Bool.and_eq_true] at hb
  obtain ⟨hb, hx⟩ := hb
  have hx : S.exn = none := by simpa using hx
  obtain ⟨k1, k2, k3⟩ := ok3 hk
  have hc : X.calm = true := by rw [cx.calm, hx]; rfl
  refine ⟨tg, iter, cd.toList, ownOf S.N (namesT t), e, t, it, cond, rfl, by rw [own_snd], hc, ih.i cx h1 k2 rfl, ?_, fun s H C cl fp => ?_, fun s H C cl fp => ?_, fun s H C cl fp => ?_, noset_i h1 X.env⟩
  · rw [cx.nN, cx.sc]
    exact blk_ok hb
  · have cb := cx.blk hx s H scope C cl fp
    rw [own_snd]
    refine ih.t cb hc h2 (fun i h => h) fun x i ht hi => ?_
    obtain ⟨t1, t2, _, _⟩ := target_of ht
    have hm : (x, i) ∈ ownOf S.N (namesT t) := by
      unfold ownOf
      refine List.mem_map.mpr ⟨i, hi, ?_⟩
      have t1 : S.N[i]? = some x := t1
      rw [List.getD_eq_getElem?_getD, t1]
      rfl
    rcases blk_own hb hm with q | q
    · refine .inr ?_
      show (relabel scope X.env).names.lookup x = some .local
      exact lookup_relabel_local q
    · refine .inl ?_
      show (scope.names.lookup x == some .cell) = true
      rw [q]
      rfl
  · have cb := cx.blk hx s H scope C cl fp
    rcases ih.d cb h4 k3 with ⟨rfl, rfl⟩ | ⟨e', c', rfl, rfl, hp⟩
    · exact pts_nil
    · exact pts_one (pt_lock hp)
  · exact (ih.e (cx.blk hx s H scope C cl fp) h3 k1).1
end
end Sv
end -- Sem31
section -- Sem32
set_option Elab.async false
set_option linter.all false
set_option maxRecDepth 100000
set_option maxHeartbeats 4000000
/-! # What the compiler says holds of the text: all expressions -/
namespace Sv
open PySem PySem.Spec PyProof.Rows L2

theorem sk_slc {i : Expr} {lo hi : Option Expr} (h : skOf i = .slc lo hi) : ∃ q, i = .Slice lo hi none q := by
  unfold skOf at h
  split at h
  · cases h; exact ⟨_, rfl⟩
  · cases h
  · cases h
  · cases h
theorem sk_rev {i : Expr} (h : skOf i = .rev) : ∃ k q1 q2 q3, i = .Slice none none (some (.UnaryOp .USub (.Constant (.int 1) k q1) q2)) q3 := by
  unfold skOf at h
  split at h
  · cases h
  · exact ⟨_, _, _, _, rfl⟩
  · cases h
  · cases h
section
variable {G : Orc} {n : Nat} (ih : SndE G n)
include ih
variable {X : Cx} {F : Fm} {k : Nat} {S : Sta}
theorem snd_sub {p o i q c} (cx : Ctx X F G k S) (h : cE S (n + 1) p (.Subscript o i q) = some c) (hk : okC c = true) : PE X (.Subscript o i q) (TEo F (evm G c)) := by
  simp only [cE] at h
  split at h
  · rename_i lo hi hs
    obtain ⟨q2, rfl⟩ := sk_slc hs
    split at h
    · rename_i a b d h1 h2 h3
      cases h
      obtain ⟨k1, k2, k3⟩ := ok3 hk
      exact pd_slc cx.ft (ih.e cx h1 k1).1 (ih.o cx h2 k2) (ih.o cx h3 k3)
    · cases h
  · rename_i hs
    obtain ⟨_, _, _, _, rfl⟩ := sk_rev hs
    obtain ⟨a, h1, rfl⟩ := Option.map_eq_some_iff.mp h
    exact pd_rev cx.ft (ih.e cx h1 hk).1
  · cases h
  · split at h
    · obtain ⟨a, h1, rfl⟩ := Option.map_eq_some_iff.mp h
      cases hk
    · split at h
      · rename_i a b h1 h2
        cases h
        obtain ⟨k1, k2⟩ := ok2 hk
        exact pd_idx cx.ft (plain_ix h2) (ih.e cx h1 k1).1 (ih.e cx h2 k2).1
      · cases h
theorem snd_att {p o f q c} (cx : Ctx X F G k S) (h : cE S (n + 1) p (.Attribute o f q) = some c) (hk : okC c = true) : PE X (.Attribute o f q) (TEo F (evm G c)) := by
  simp only [cE] at h
  split at h
  · rename_i hs
    split at h
    case isFalse => cases h
    rename_i hf
    cases h
    have hf : S.efs.lookup S.exk = some f := by simpa using hf
    cases o <;> first | (cases hs; done) | skip
    rename_i x q2
    have hx : S.exn = some x := by simpa [isErr] using hs
    obtain ⟨m1, m2, m3⟩ := cx.md.exf _ _ hf
    obtain ⟨X0, F0, a, oe, pn, j, dd, e1, e2, hz, hd, hN, hv, ho⟩ := cx.su _ hx
    subst e1
    subst e2
    obtain ⟨o1, o2, _⟩ := okN_of ho
    exact pd_exf (i := j) m1 m2 m3 hz hd (pe_var hN hv o1 o2) rfl
  · split at h
    case isFalse => cases h
    rename_i hn
    split at h
    · rename_i a i h1 h2
      cases h
      obtain ⟨m1, m2⟩ := cx.md.ats _ _ h2
      exact pd_att cx.ft cx.md.cf m1 m2 (base_of hn) (ih.e cx h1 hk).1
    · cases h
theorem snd_fst {p ps q c} (cx : Ctx X F G k S) (h : cE S (n + 1) p (.JoinedStr ps q) = some c) (hk : okC c = true) : PE X (.JoinedStr ps q) (TEo F (evm G c)) := by
  simp only [cE] at h
  obtain ⟨cs, h1, rfl⟩ := Option.map_eq_some_iff.mp h
  obtain ⟨k1, k2⟩ := ok2 (show (okCs cs && fstOk cs) = true from hk)
  have hp := ih.fs cx h1 k1
  cases hp with
  | nil => cases k2
  | txt hz r =>
    cases r with
    | nil => cases k2
    | fmt a b => exact pd_fst cx.ft (.txt hz (.fmt a b))
    | txt a b => exact pd_fst cx.ft (.txt hz (.txt a b))
  | fmt he r =>
    cases r with
    | nil => exact pd_fst1 cx.ft he
    | fmt a b => exact pd_fst cx.ft (.fmt he (.fmt a b))
    | txt a b => exact pd_fst cx.ft (.fmt he (.txt a b))
theorem snd_lc {p elt gs scope q c} (cx : Ctx X F G k S) (h : cE S (n + 1) p (.ListComp elt gs scope q) = some c) (hk : okC c = true) : PE X (.ListComp elt gs scope q) (TEo F (evm G c)) := by
  obtain ⟨tg, iter, ifs, own, e, t, it, cond, rfl, rfl, hc, hi, ok, hg, ht, he, hs⟩ := lc_parts ih cx h hk
  exact pd_lc cx.ft hc hi ok hg ht he hs
theorem snd_call {p f args kws pos c} (cx : Ctx X F G k S) (h : cE S (n + 1) p (.Call f args kws pos) = some c) (hk : okC c = true) : PE X (.Call f args kws pos) (TEo F (evm G c)) := by
  simp only [cE] at h
  cases hf : ckOf f with
  | bad => simp only [hf] at h; cases h
  | nam x =>
    simp only [hf] at h
    obtain ⟨q, rfl⟩ := ck_nam hf
    exact ih.cn cx h hk
  | att o m apos =>
    simp only [hf] at h
    obtain rfl := ck_att hf
    exact ih.ca cx h hk
theorem snd_e {p e c} (cx : Ctx X F G k S) (h : cE S (n + 1) p e = some c) (hk : okC c = true) : PE X e (TEo F (evm G c)) ∧ PT X e (TTo F (evb G c)) := by
  cases e <;> first | (simp only [cE] at h; cases h; done) | skip
  case Constant v j q =>
    simp only [cE] at h
    exact pt_plain (sc_con h) fun _ => rfl
  case Name x q =>
    simp only [cE] at h
    exact pt_plain (sc_name cx h) fun _ => rfl
  case Tuple es m q =>
    simp only [cE] at h
    obtain ⟨cs, h1, rfl⟩ := Option.map_eq_some_iff.mp h
    exact pt_plain (pd_tup cx.ft (ih.es cx h1 hk)) fun _ => rfl
  case List es q =>
    simp only [cE] at h
    obtain ⟨cs, h1, rfl⟩ := Option.map_eq_some_iff.mp h
    exact pt_plain (pd_lst cx.ft (ih.es cx h1 hk)) fun _ => rfl
  case Dict ks vs q =>
    simp only [cE] at h
    split at h
    · split at h
      · split at h
        · cases h; cases hk
        · cases h
      · cases h
    · cases h
  case UnaryOp op a q =>
    simp only [cE] at h
    obtain ⟨x, h1, h2⟩ := Option.bind_eq_some_iff.mp h
    cases op <;> first | (cases h2; done) | skip
    case Not =>
      cases h2
      exact ⟨pd_not cx.ft (ih.e cx h1 hk).1, pd_tnot cx.ft (ih.e cx h1 hk).2⟩
    case USub =>
      cases h2
      exact pt_plain (pd_neg cx.ft (ih.e cx h1 hk).1) fun _ => rfl
  case BinOp a op b q =>
    simp only [cE] at h
    split at h
    · rename_i o x y h1 h2 h3
      cases h
      obtain ⟨k1, k2⟩ := ok2 hk
      exact pt_plain (pd_bin cx.ft h1 (ih.e cx h2 k1).1 (ih.e cx h3 k2).1) fun _ => rfl
    · cases h
  case BoolOp op es q =>
    simp only [cE] at h
    split at h
    · split at h
      · cases h; cases hk
      · cases h
    · obtain ⟨a, b⟩ := ih.bool (pos := q) cx h hk
      exact ⟨a, b.pt⟩
  case Compare a ops bs q =>
    simp only [cE] at h
    exact ih.cmp cx h hk
  case IfExp t a b q =>
    simp only [cE] at h
    split at h
    · rename_i x y z h1 h2 h3
      cases h
      obtain ⟨k1, k2, k3⟩ := ok3 hk
      exact ⟨pd_ifx cx.ft (ih.e cx h1 k1).2 (ih.e cx h2 k2).1 (ih.e cx h3 k3).1, pt_ifx cx.ft (ih.e cx h1 k1).2 (ih.e cx h2 k2).2 (ih.e cx h3 k3).2⟩
    · cases h
  case Subscript o i q => exact pt_plain (snd_sub ih cx h hk) fun _ => rfl
  case Attribute o f q => exact pt_plain (snd_att ih cx h hk) fun _ => rfl
  case JoinedStr ps q => exact pt_plain (snd_fst ih cx h hk) fun _ => rfl
  case ListComp elt gs scope q => exact pt_plain (snd_lc ih cx h hk) fun _ => rfl
  case DictComp a b gs scope q =>
    simp only [cE] at h
    split at h
    · split at h
      · split at h
        · cases h; cases hk
        · cases h
      · cases h
    · cases h
  case Call f args kws q => exact pt_plain (snd_call ih cx h hk) fun _ => rfl
end
/-- the induction -/
theorem sndE (G : Orc) : ∀ n, SndE G n
  | 0 => sndE0
  | n + 1 =>
    have ih := sndE G n
    ⟨snd_e ih, snd_cmp ih, snd_bool ih, snd_o ih, snd_d ih, snd_es ih, snd_fs ih, snd_cn ih, snd_ca ih, snd_b ih, snd_i ih, snd_t ih, snd_ts ih⟩
end Sv
end -- Sem32
section -- Sem33
set_option Elab.async false
set_option linter.all false
set_option maxRecDepth 100000
set_option maxHeartbeats 4000000
/-! # What the compiler says holds of the text: statements' parts -/
namespace Sv
open PySem PySem.Spec PyProof.Rows L2

/-! ### what is covered -/
mutual
def okT : T → Bool
  | .nm _ => true
  | .tp ts => okTs ts
  | .sub o i => okC o && okC i
  | .at _ _ => false
def okTs : List T → Bool
  | [] => true
  | t :: ts => okT t && okTs ts
end
mutual
def okS : S → Bool
  | .expr e => okC e
  | .asg t e => okT t && okC e
  | .asgp _ es => okCs es
  | .asf o _ e => okC o && okC e
  | .aug _ op e => (match op with
    | .add => true
    | _ => false) && okC e
  | .ifs c a b => okC c && okSs a && okSs b
  | .whl c b => okC c && okSs b
  | .loop _ it b => okIt it && okSs b
  | .ret e => okC e
  | .retN => true
  | .raise c es => decide (c < 8) && !es.isEmpty && okCs es
  | .tryx b hs => okSs b && okHs hs
  | .pass => true
  | .brk => true
  | .cnt => true
def okSs : List S → Bool
  | [] => true
  | s :: ss => okS s && okSs ss
def okHs : List (Nat × Option Nat × List S) → Bool
  | [] => false
  | (_, none, _) :: _ => false
  | (_, some _, cs) :: hs => hs.isEmpty && !cs.isEmpty && okSs cs
end
/-! ### the context of a statement -/
/-- what is known of the errors -/
structure Xd (X : Cx) (Z : Zx) (G : Orc) (k : Nat) (S : Sta) : Prop where
  nm : ∀ x c ps, S.gl.lookup x = some (.exc c ps) → X.mg x = some (.ref (Z.exA c)) ∧ c ∈ G.exs
  ini : S.exn = none → ∀ x c ps, S.gl.lookup x = some (.exc c ps) → c < 8 → ps ≠ [] → ExF X Z k x c
  ek : ExK X Z G
structure CtxS (X : Cx) (F : Fm) (G : Orc) (k : Nat) (S : Sta) : Prop where
  cx : Ctx X F G k S
  xd : Xd X F.z G k S
  fn : ∀ x, X.fn x = true
  bk : S.sc.kind = .function
  fr : X.env.frame = some X.env.locals
  st : X.stack = X.env :: X.outer
  own : S.exn = none → PassesOwn (model X.prog X.w) X.A X.env X.xe
section
variable {X : Cx} {F : Fm} {G : Orc} {k : Nat} {S : Sta}
theorem CtxS.block (c : CtxS X F G k S) : X.env.blockKind = .function := by
  unfold Env.blockKind
  rw [c.cx.sc, c.bk]
  rfl
theorem CtxS.tr (c : CtxS X F G k S) (hx : S.exn = none) {W : WX} {pn : List (Addr × Obj)} {xe : Value → Shared → Prop} (tk : Takes (X.tr pn xe) W) (ho : PassesOwn (model X.prog X.w) X.A X.env xe) : CtxS (X.tr pn xe) (F.wi W) G k S := by
  have x := c.cx
  refine ⟨⟨fits_tr x.ft tk, x.sc, x.nN, ⟨x.md.con, x.md.nn, x.md.ats, x.md.cf, x.md.exf, x.md.len⟩, fun h => ?_, x.calm, x.fps, fun n hn => ?_, x.xs⟩, ⟨c.xd.nm, fun h x e ps hx hl hne => ?_, ⟨c.xd.ek.exm⟩⟩, c.fn, c.bk, c.fr, c.st, fun _ => ho⟩
  · obtain ⟨a, b, d, e, g⟩ := x.kn h
    exact ⟨a, b, d, e, g⟩
  · rw [hx] at hn
    cases hn
  · obtain ⟨a, b, d⟩ := c.xd.ini h x e ps hx hl hne
    exact ⟨a, b, d⟩
/-- an except suite -/
theorem CtxS.suite (c : CtxS X F G k S) (hx : S.exn = none) {n : Str} {i kk : Nat} {a : Addr} {oe : Obj} {dd : Addr} {pn : List (Addr × Obj)} (hi : targetOf S n = some i) (hl : S.sc.names.lookup n = some .local) (ho : okN n = true) (hz : Zc (.ref (F.z.exA kk)) (some dd) oe) (hd : ∃ vs, oe.data = .fields vs) :
    CtxS (X.suite a ((a, oe) :: pn)) (F.hnd (some (i, a)) kk dd) G k { S with exn := some n, exk := kk } := by
  have x := c.cx
  refine ⟨⟨fits_suite x.ft a _ _ kk dd, x.sc, x.nN, ⟨x.md.con, x.md.nn, x.md.ats, x.md.cf, x.md.exf, x.md.len⟩, (fun h => nomatch h), rfl, x.fps, fun m hm => ?_, (fun h => nomatch h)⟩, ⟨c.xd.nm, (fun h => nomatch h), ⟨c.xd.ek.exm⟩⟩, c.fn, c.bk, c.fr, c.st, fun h => nomatch h⟩
  cases hm
  refine ⟨X, F, a, oe, pn, i, dd, rfl, rfl, hz, hd, ?_, ?_, ho⟩
  · rw [x.nN]
    exact (target_of hi).1
  · rw [x.sc]
    exact .inl hl
/-! ### targets -/
theorem cT_name {x : Str} {i : Nat} {q : Pos} (c : CtxS X F G k S) (h : targetOf S x = some i) : PG X (.Name x q) (TGo F (asm G (.nm i))) := by
  obtain ⟨t1, t2, _, _⟩ := target_of h
  exact gd_name c.cx.ft.nd (by rw [c.cx.nN]; exact t1) (by rw [c.cx.sc]; exact t2) (.inl (c.fn x)) (c.cx.slot' h)
theorem goT_imp {e : Expr} {t : T} {own : List Nat} (h : PG X e (TGn F own t)) : PG X e (TGo F (asN t)) :=
  h.imp fun v σ H Q ⟨μ, ρ, φ, η, fr, lv, d, hh, r, g⟩ => by
    simp only [asN] at g
    cases e1 : asgN ρ t d with
    | none => rw [e1] at g; exact g.elim
    | some ρ1 =>
      rw [e1] at g
      exact ⟨μ, ρ, φ, η, fr, lv, d, ρ1, hh, r, e1, fun σ' h' _ => g σ' _ _ h' .refl⟩
/-- a loop's target -/
theorem cT_loop {n p : Nat} {e : Expr} {t : T} (c : CtxS X F G k S) (hx : S.exn = none) (h : cT S n p e = some t) : PG X e (TGo F (asN t)) :=
  goT_imp ((sndE G n).t (own := namesT t) c.cx (by rw [c.cx.calm, hx]; rfl) h (fun i h => h) fun x i _ _ => .inl (c.fn x))
mutual
theorem cT_any {n p : Nat} {e : Expr} {t : T} (c : CtxS X F G k S) (hc : X.calm = true ∨ isTupE e = false) (h : cT S n p e = some t) (hk : okT t = true) : PG X e (TGo F (asm G t)) := by
  cases n with
  | zero => simp [cT] at h
  | succ n =>
    cases e <;> first | (simp only [cT] at h; cases h; done) | skip
    case Tuple es m q =>
      simp only [cT] at h
      obtain ⟨ts, h1, rfl⟩ := Option.map_eq_some_iff.mp h
      obtain ⟨l1, l2⟩ := cTs_each (env := X.env) h1
      have hc : X.calm = true := hc.resolve_right fun z => nomatch z
      exact gd_tup c.cx.ft hc (cTs_any c hc h1 hk) l1 l2 rfl
    case Subscript o i q =>
      simp only [cT] at h
      split at h
      · rename_i a b h1 h2
        cases h
        obtain ⟨k1, k2⟩ := ok2 (show (okC a && okC b) = true from hk)
        exact gd_sub c.cx.ft ((sndE G n).e c.cx h1 k1).1 ((sndE G n).e c.cx h2 k2).1 fun v => by
          cases n with
          | zero => simp [cE] at h2
          | succ n =>
            cases i <;> first | rfl | (simp only [cE] at h2; cases h2)
      · cases h
    case Name x q =>
      simp only [cT] at h
      obtain ⟨i, h1, rfl⟩ := Option.map_eq_some_iff.mp h
      exact cT_name c h1
theorem cTs_any {n p : Nat} {es : List Expr} {ts : List T} (c : CtxS X F G k S) (hc : X.calm = true) (h : cTs S n p es = some ts) (hk : okTs ts = true) : PGs X es (TGso F (asms G ts)) := by
  cases n with
  | zero => simp [cTs] at h
  | succ n =>
    cases es with
    | nil =>
      simp only [cTs, Option.some.injEq] at h
      subst h
      exact gds_nil
    | cons e es =>
      obtain ⟨a, b, h1, h2, rfl⟩ := cTs_cons h
      obtain ⟨k1, k2⟩ := ok2 (show (okT a && okTs b) = true from hk)
      exact gds_cons c.cx.ft (cT_any c (.inl hc) h1 k1) (cTs_any c hc h2 k2) (by rw [assign_one (cT_star h1)]; rfl)
end
end
/-! ### names exchanged -/
def tupsQ (t e : Expr) : Option (List Expr × List Expr) := match t, e with
  | .Tuple ts _ _, .Tuple vs _ _ => some (ts, vs)
  | .List ts _, .Tuple vs _ _ => some (ts, vs)
  | _, _ => none
theorem swapped_none {t e : Expr} {env : PySem.Env} (h : swapQ env.scope t e = none) : swappedStores [t] e env = pure none := by
  unfold swapQ at h
  unfold swappedStores
  cases t <;> first | rfl | (cases e <;> first | rfl | skip)
  all_goals
    simp only at h ⊢
    split at h
    · rename_i c
      rw [if_pos (by simp only [Bool.or_eq_true] at c ⊢; exact .inl c)]
    · rename_i c1
      split
      · rfl
      split at h
      · rename_i c
        exact if_pos c
      · rename_i c2
        refine (if_neg c2).trans ?_
        split at h
        · rename_i c
          exact if_pos c
        · rename_i c3
          refine (if_neg c3).trans ?_
          split at h
          · rename_i c
            exact if_pos c
          · cases h
end Sv
end -- Sem33
section -- Sem34
set_option Elab.async false
set_option linter.all false
set_option maxRecDepth 100000
set_option maxHeartbeats 4000000
/-! # What the compiler says holds of the text: statements -/
namespace Sv
open PySem PySem.Spec PyProof.Rows L2

theorem fm2 {α β : Type} {f : α → Option β} {a b : α} (h : (List.filterMap f [a, b]).length = 2) : ∃ x y, f a = some x ∧ f b = some y ∧ List.filterMap f [a, b] = [x, y] := by
  cases h1 : f a <;> cases h2 : f b <;> simp [List.filterMap, h1, h2] at h ⊢
theorem fm3 {α β : Type} {f : α → Option β} {a b c : α} (h : (List.filterMap f [a, b, c]).length = 3) : ∃ x y z, f a = some x ∧ f b = some y ∧ f c = some z ∧ List.filterMap f [a, b, c] = [x, y, z] := by
  cases h1 : f a <;> cases h2 : f b <;> cases h3 : f c <;> simp [List.filterMap, h1, h2, h3] at h ⊢
theorem ed2 {x y : Str} (h : [x, y].eraseDups.length = 2) : x ≠ y := fun z => by
  subst z
  simp [List.eraseDups_cons] at h
theorem ed3 {x y z : Str} (h : [x, y, z].eraseDups.length = 3) : x ≠ y ∧ x ≠ z ∧ y ≠ z := by
  refine ⟨fun q => ?_, fun q => ?_, fun q => ?_⟩
  · subst q
    by_cases c : z = x
    · subst c; simp [List.eraseDups_cons] at h
    · have : (!z == x) = true := by simpa using c
      simp [List.eraseDups_cons, List.filter_cons, this] at h
  · subst q
    by_cases c : y = x
    · subst c; simp [List.eraseDups_cons] at h
    · have : (!y == x) = true := by simpa using c
      simp [List.eraseDups_cons, List.filter_cons, this] at h
  · subst q
    by_cases c : y = x
    · subst c; simp [List.eraseDups_cons] at h
    · have : (!y == x) = true := by simpa using c
      simp [List.eraseDups_cons, List.filter_cons, this] at h
/-- a local name on its line -/
def locN (sc : Scope) (line : Nat) : Expr → Option Str
  | .Name id pos => if sc.names.lookup id == some .local && pos.line == line then some id else none
  | _ => none
theorem locN_of {sc : Scope} {line : Nat} {e : Expr} {x : Str} (h : locN sc line e = some x) : (∃ p, e = .Name x p) ∧ sc.names.lookup x = some .local := by
  unfold locN at h
  split at h
  · split at h
    · rename_i c
      cases h
      simp only [Bool.and_eq_true, beq_iff_eq] at c
      exact ⟨⟨_, rfl⟩, c.1⟩
    · cases h
  · cases h
def Swp (sc : Scope) (ts vs : List Expr) (xs : List Str) : Prop :=
  (∃ x px y py a b, ts = [.Name x px, .Name y py] ∧ vs = [a, b] ∧ xs = [x, y] ∧ x ≠ y ∧ sc.names.lookup x = some .local ∧ sc.names.lookup y = some .local) ∨
  (∃ x px y py z pz a b c, ts = [.Name x px, .Name y py, .Name z pz] ∧ vs = [a, b, c] ∧ xs = [x, y, z] ∧ x ≠ y ∧ x ≠ z ∧ y ≠ z ∧ sc.names.lookup x = some .local ∧ sc.names.lookup y = some .local ∧ sc.names.lookup z = some .local)
theorem swp_of {sc : Scope} {ts vs : List Expr} {line : Nat} (h1 : ts.length = 2 ∨ ts.length = 3) (h2 : vs.length = ts.length) (h3 : (ts.filterMap (locN sc line)).length = ts.length) (h4 : (ts.filterMap (locN sc line)).eraseDups.length = (ts.filterMap (locN sc line)).length) : Swp sc ts vs (ts.filterMap (locN sc line)) := by
  rcases h1 with e | e
  · match ts, e with
    | [t1, t2], _ =>
      match vs, h2 with
      | [a, b], _ =>
        obtain ⟨x, y, f1, f2, f3⟩ := fm2 h3
        rw [f3] at h4 ⊢
        obtain ⟨⟨px, rfl⟩, l1⟩ := locN_of f1
        obtain ⟨⟨py, rfl⟩, l2⟩ := locN_of f2
        exact .inl ⟨x, px, y, py, a, b, rfl, rfl, rfl, ed2 h4, l1, l2⟩
  · match ts, e with
    | [t1, t2, t3], _ =>
      match vs, h2 with
      | [a, b, c], _ =>
        obtain ⟨x, y, z, f1, f2, f3, f4⟩ := fm3 h3
        rw [f4] at h4 ⊢
        obtain ⟨⟨px, rfl⟩, l1⟩ := locN_of f1
        obtain ⟨⟨py, rfl⟩, l2⟩ := locN_of f2
        obtain ⟨⟨pz, rfl⟩, l3⟩ := locN_of f3
        obtain ⟨d1, d2, d3⟩ := ed3 h4
        exact .inr ⟨x, px, y, py, z, pz, a, b, c, rfl, rfl, rfl, d1, d2, d3, l1, l2, l3⟩
theorem lens_of {l : List Str} {n : Nat} (h : ¬(l.length != n || l.eraseDups.length != l.length) = true) : l.length = n ∧ l.eraseDups.length = l.length := by
  simpa only [Bool.or_eq_true, bne_iff_ne, ne_eq, not_or, Decidable.not_not] using h
theorem swapped_some {ts vs : List Expr} {k k2 : Nat} {pt pt2 : Pos} {xs : List Str} {env : PySem.Env} (h : swapQ env.scope (.Tuple ts k pt) (.Tuple vs k2 pt2) = some xs) (hb : env.blockKind = .function) (hf : vs.all (constantsAlone 8) = false) :
    swappedStores [.Tuple ts k pt] (.Tuple vs k2 pt2) env = pure (some xs) ∧ Swp env.scope ts vs xs := by
  unfold swapQ at h
  simp only at h
  split at h
  · cases h
  rename_i c1
  split at h
  · cases h
  rename_i c2
  split at h
  · cases h
  rename_i c3
  split at h
  · cases h
  rename_i c4
  cases h
  refine ⟨?_, ?_⟩
  · unfold swappedStores
    simp only
    refine (if_neg ?_).trans ?_
    · rw [hb]
      simpa using c1
    refine (if_neg c2).trans ?_
    refine (if_neg c3).trans ?_
    refine (if_neg c4).trans ?_
    refine (if_neg (by rw [hf]; exact Bool.false_ne_true)).trans ?_
    rfl
  · obtain ⟨d1, d2⟩ := lens_of c3
    have d3 : (ts.length = 2 ∨ ts.length = 3) ∧ vs.length = ts.length := by
      simp only [Bool.or_eq_true, Bool.not_eq_true', Bool.or_eq_false_iff, beq_eq_false_iff_ne, ne_eq, bne_iff_ne, not_or, not_and, Decidable.not_not] at c1
      refine ⟨?_, c1.2⟩
      by_cases q : ts.length = 2
      · exact .inl q
      · exact .inr (c1.1 q)
    have key := @swp_of env.scope ts vs ((ts.head?.map (·.pos.line)).getD 0) d3.1 d3.2
    have ef : (locN env.scope ((ts.head?.map (·.pos.line)).getD 0)) = (fun x => match x with
        | .Name id pos => if env.scope.names.lookup id == some .local && pos.line == (ts.head?.map (·.pos.line)).getD 0 then some id else none
        | _ => none) := by
      funext x
      cases x <;> rfl
    rw [ef] at key
    exact key d1 d2
end Sv
end -- Sem34
section -- Sem35
set_option Elab.async false
set_option linter.all false
set_option maxRecDepth 100000
set_option maxHeartbeats 4000000
/-! # What the compiler says holds of the text: statements -/
namespace Sv
open PySem PySem.Spec PyProof.Rows L2

structure SndS (G : Orc) (n : Nat) : Prop where
  s : ∀ {X F k S p st c}, CtxS X F G k S → cS S n p st = some c → okS c = true → PS X st (TSo F (exm G c))
  ss : ∀ {X F k S p ss cs}, CtxS X F G k S → cSs S n p ss = some cs → okSs cs = true → PSs X ss (TSo F (exsm G cs))
theorem sndS0 {G : Orc} : SndS G 0 := ⟨fun _ h => by simp [cS] at h, fun _ h => by simp [cSs] at h⟩
theorem swaps_att {e o : Expr} {y : Str} {q : Pos} {l : Nat} {env : PySem.Env} : swapsWith e (some (.Attribute o y q)) l env = pure false := by
  cases e <;> rfl
theorem swaps_no {e : Expr} {l : Nat} {env : PySem.Env} (h : isComp e = false) : swapsWith e none l env = pure false := by
  cases e <;> first | rfl | cases h
theorem swaps_any {t e : Expr} {l : Nat} {env : PySem.Env} {S : Sta} {n p : Nat} {c : C} (hb : env.blockKind = .function) (hc : cE S n p e = some c) (hk : okC c = true) : swapsWith e (some t) l env = pure (lcHere env.scope t e) := by
  cases n with
  | zero => simp [cE] at hc
  | succ n =>
  cases e <;> first | (simp only [cE] at hc; cases hc; done) | skip
  case ListComp elt gs scope q =>
    cases t <;> first | rfl | skip
    case Name x r =>
      unfold swapsWith lcHere
      simp only
      rw [hb]
      rfl
  case DictComp a b gs scope q =>
    simp only [cE] at hc
    split at hc
    · split at hc
      · split at hc
        · cases hc; cases hk
        · cases hc
      · cases hc
    · cases hc
  all_goals (cases t <;> rfl)
theorem mapM2 {f : Str → Option Nat} {x y : Str} {is : List Nat} (h : [x, y].mapM f = some is) : ∃ i j, f x = some i ∧ f y = some j ∧ is = [i, j] := by
  cases h1 : f x <;> cases h2 : f y <;> simp [List.mapM_cons, h1, h2] at h ⊢
  exact h.symm
theorem mapM3 {f : Str → Option Nat} {x y z : Str} {is : List Nat} (h : [x, y, z].mapM f = some is) : ∃ i j k, f x = some i ∧ f y = some j ∧ f z = some k ∧ is = [i, j, k] := by
  cases h1 : f x <;> cases h2 : f y <;> cases h3 : f z <;> simp [List.mapM_cons, h1, h2, h3] at h ⊢
  exact h.symm
theorem slots_ne {S : Sta} {x y : Str} {i j : Nat} (hx : targetOf S x = some i) (hy : targetOf S y = some j) (h : x ≠ y) : i ≠ j := fun z => by
  subst z
  have a := (target_of hx).1
  rw [(target_of hy).1] at a
  cases a
  exact h rfl
theorem gk_att {S : Sta} {t e o : Expr} {f : Str} (h : gkOf S t e = .att o f) : ∃ q, t = .Attribute o f q := by
  unfold gkOf at h
  split at h
  · cases h; exact ⟨_, rfl⟩
  · split at h
    · split at h
      · split at h <;> cases h
      · cases h
    · split at h <;> cases h
theorem gk_swap {S : Sta} {t e : Expr} {xs : List Str} {vs : List Expr} (h : gkOf S t e = .swap xs vs) : S.exn = none ∧ ∃ ts k pt k2 pt2, t = .Tuple ts k pt ∧ e = .Tuple vs k2 pt2 ∧ swapQ S.sc t e = some xs ∧ vs.all (constantsAlone 8) = false := by
  unfold gkOf at h
  split at h
  · cases h
  · split at h
    · rename_i ys hq
      split at h
      · rename_i a b h1 h2
        split at h
        · cases h
        · rename_i c
          cases h
          cases t <;> first | (cases h1; done) | skip
          cases e <;> first | (cases h2; done) | skip
          cases h2
          simp only [Bool.or_eq_true, not_or, foldAll, Bool.not_eq_true] at c
          exact ⟨by simpa using c.2, _, _, _, _, _, rfl, rfl, hq, c.1⟩
      · cases h
    · split at h <;> cases h
theorem gk_plain {S : Sta} {t e : Expr} (h : gkOf S t e = .plain) : swapQ S.sc t e = none ∧ (S.exn = none ∨ isTupE t = false) := by
  unfold gkOf at h
  split at h
  · cases h
  · split at h
    · split at h
      · split at h <;> cases h
      · cases h
    · rename_i hq
      split at h
      · cases h
      · rename_i c
        refine ⟨hq, ?_⟩
        cases hx : S.exn with
        | none => exact .inl rfl
        | some n =>
          rw [hx] at c
          exact .inr (by simpa using c)
theorem ok_aug {i : Nat} {o : Bop} {e : C} (h : okS (.aug i o e) = true) : o = .add ∧ okC e = true := by
  simp only [okS, Bool.and_eq_true] at h
  cases o <;> first | exact ⟨rfl, h.2⟩ | (cases h.1)
theorem ok_try {b : List S} {hs : List (Nat × Option Nat × List S)} (h : okS (.tryx b hs) = true) : okSs b = true ∧ ∃ k i cs, hs = [(k, some i, cs)] ∧ (!cs.isEmpty) = true ∧ okSs cs = true := by
  have h : (okSs b && okHs hs) = true := by simpa only [okS] using h
  obtain ⟨h1, h2⟩ := ok2 h
  refine ⟨h1, ?_⟩
  match hs, h2 with
  | [], h2 => simp only [okHs] at h2; cases h2
  | (_, none, _) :: _, h2 => simp only [okHs] at h2; cases h2
  | (k, some i, cs) :: hs, h2 =>
    simp only [okHs] at h2
    obtain ⟨a, b, c⟩ := ok3 h2
    obtain rfl := nil_of a
    exact ⟨k, i, cs, rfl, b, c⟩
theorem raise_of {S : Sta} {x : Option Expr} {c : Nat} {args : List Expr} (h : raiseOf S x = some (c, args)) : ∃ y q q2 ps, x = some (.Call (.Name y q) args [] q2) ∧ isGlob S y = true ∧ S.gl.lookup y = some (.exc c ps) ∧ args.length = ps.length := by
  unfold raiseOf at h
  split at h
  · split at h
    · rename_i hg
      split at h
      · rename_i ps hl
        split at h
        · rename_i he
          cases h
          exact ⟨_, _, _, _, rfl, hg, hl, he⟩
        · cases h
      · cases h
    · cases h
  · cases h
theorem aug_of {S : Sta} {t : Expr} {i : Nat} (h : augOf S t = some i) : ∃ x q, t = .Name x q ∧ targetOf S x = some i := by
  unfold augOf at h
  split at h
  · exact ⟨_, _, rfl, h⟩
  · cases h
theorem bop_add {op : Operator} (h : bopOf op = some .add) : op = .Add := by cases op <;> first | rfl | cases h
theorem exc_of {S : Sta} {t : Option Expr} {k : Nat} (h : excOf S t = some k) : ∃ x q ps, t = some (.Name x q) ∧ isGlob S x = true ∧ S.gl.lookup x = some (.exc k ps) := by
  unfold excOf at h
  split at h
  · split at h
    · rename_i hg
      split at h
      · rename_i hl
        cases h
        exact ⟨_, _, _, rfl, hg, hl⟩
      · cases h
    · cases h
  · cases h
theorem as_of {S : Sta} {x : Option Str} {i : Nat} (h : asOf S x = some (some i)) : ∃ n, x = some n ∧ S.sc.names.lookup n = some .local ∧ okN n = true ∧ targetOf S n = some i := by
  unfold asOf at h
  split at h
  · cases h
  · split at h
    · rename_i c
      obtain ⟨j, h1, h2⟩ := Option.map_eq_some_iff.mp h
      cases h2
      simp only [Bool.and_eq_true, beq_iff_eq] at c
      exact ⟨_, rfl, c.1, c.2, h1⟩
    · cases h
section
variable {G : Orc} {n : Nat} (ih : ∀ m, m ≤ n → SndS G m)
include ih
variable {X : Cx} {F : Fm} {k : Nat} {S : Sta}
theorem snd_ss {p ss cs} (c : CtxS X F G k S) (h : cSs S (n + 1) p ss = some cs) (hk : okSs cs = true) : PSs X ss (TSo F (exsm G cs)) := by
  cases ss with
  | nil =>
    simp only [cSs, Option.some.injEq] at h
    subst h
    exact sd_nil
  | cons s ss =>
    simp only [cSs] at h
    split at h
    · rename_i a b h1 h2
      cases h
      obtain ⟨k1, k2⟩ := ok2 (show (okS a && okSs b) = true from hk)
      exact sd_cons ((ih _ (Nat.le_refl _)).s c h1 k1) ((ih _ (Nat.le_refl _)).ss c h2 k2)
    · cases h
theorem snd_asg {p t e q c} (x : CtxS X F G k S) (h : cS S (n + 1) p (.Assign [t] e q) = some c) (hk : okS c = true) : PS X (.Assign [t] e q) (TSo F (exm G c)) := by
  simp only [cS] at h
  have cx := x.cx
  split at h
  · rename_i o f hg
    obtain ⟨q2, rfl⟩ := gk_att hg
    split at h
    · rename_i a i b h1 h2 h3
      cases h
      obtain ⟨k1, k2⟩ := ok2 (show (okC a && okC b) = true from hk)
      obtain ⟨m1, m2⟩ := cx.md.ats _ _ h2
      exact sd_asf cx.ft cx.md.cf m1 m2 ((sndE G n).e cx h1 k1).1 ((sndE G n).e cx h3 k2).1 swaps_att
    · cases h
  · rename_i xs vs hg
    obtain ⟨hx, ts, kt, pt, k2, pt2, rfl, rfl, hq, hf⟩ := gk_swap hg
    split at h
    case h_2 => cases h
    rename_i is cs h1 h2
    cases h
    rw [← cx.sc] at hq
    obtain ⟨hw, hs⟩ := swapped_some hq x.block hf
    have pa := (sndE G n).es cx h2 hk
    have hc : X.calm = true := by rw [cx.calm, hx]; rfl
    have N : ∀ {y : Str} {i : Nat}, targetOf S y = some i → X.N[i]? = some y := fun h => by rw [cx.nN]; exact (target_of h).1
    rcases hs with ⟨x1, px, y1, py, a, b, rfl, rfl, rfl, d1, l1, l2⟩ | ⟨x1, px, y1, py, z1, pz, a, b, d, rfl, rfl, rfl, d1, d2, d3, l1, l2, l3⟩
    · obtain ⟨i, j, t1, t2, rfl⟩ := mapM2 h1
      exact sd_par2 cx.ft hc (N t1) (N t2) (slots_ne t1 t2 d1) l1 l2 (cx.slot' t1) (cx.slot' t2) pa hw rfl
    · obtain ⟨i, j, l, t1, t2, t3, rfl⟩ := mapM3 h1
      exact sd_par3 cx.ft hc (N t1) (N t2) (N t3) (slots_ne t1 t2 d1) (slots_ne t1 t3 d2) (slots_ne t2 t3 d3) l1 l2 l3 (cx.slot' t1) (cx.slot' t2) (cx.slot' t3) pa hw rfl
  · rename_i hg
    obtain ⟨hq, hpl⟩ := gk_plain hg
    rw [← cx.sc] at hq
    split at h
    case h_2 => cases h
    rename_i a b h1 h2
    cases h
    obtain ⟨k1, k2⟩ := ok2 (show (okT a && okC b) = true from hk)
    have he := ((sndE G n).e cx h2 k2).1
    have hsw := swaps_any (t := t) (l := q.line) x.block h2 k2
    cases hl : lcHere X.env.scope t e with
    | false =>
      rw [hl] at hsw
      have hc : X.calm = true ∨ isTupE t = false := hpl.imp (fun z => by rw [cx.calm, z]; rfl) id
      exact sd_asg cx.ft he (cT_any x hc h1 k1) hsw (swapped_none hq) (by rw [assign_one (cT_star h1)]; rfl)
    | true =>
      rw [hl] at hsw
      cases t <;> first | (cases hl; done) | skip
      rename_i y py
      cases e <;> first | (cases hl; done) | skip
      case ListComp elt gs scope pos =>
        simp only [lcHere, Bool.and_eq_true, beq_iff_eq] at hl
        cases n with
        | zero => simp [cE] at h2
        | succ n =>
        simp only [cT] at h1
        obtain ⟨i, t1, rfl⟩ := Option.map_eq_some_iff.mp h1
        obtain ⟨tg, iter, ifs, own, ce, ct, it, cond, rfl, rfl, hc, hi, ok, hg, ht, he, hs⟩ := lc_parts (sndE G n) cx h2 k2
        exact sd_setLc cx.ft hc (by rw [cx.nN]; exact (target_of t1).1) hl.1.1 hsw (cx.slot' t1) hi ok hg ht he hs
      case DictComp a2 b2 gs scope pos =>
        cases n with
        | zero => simp [cE] at h2
        | succ n =>
        simp only [cE] at h2
        split at h2
        · split at h2
          · split at h2
            · cases h2; cases k2
            · cases h2
          · cases h2
        · cases h2
  · cases h
theorem snd_s {p st c} (x : CtxS X F G k S) (h : cS S (n + 1) p st = some c) (hk : okS c = true) : PS X st (TSo F (exm G c)) := by
  have cx := x.cx
  cases st <;> first | (simp only [cS] at h; cases h; done) | skip
  case Expr e q =>
    simp only [cS] at h
    split at h
    · rename_i hd
      cases h
      unfold isDoc at hd
      split at hd
      · exact sd_doc
      · cases hd
    · split at h
      · cases h
      · rename_i hc
        obtain ⟨a, h1, rfl⟩ := Option.map_eq_some_iff.mp h
        exact sd_expr cx.ft ((sndE G n).e cx h1 hk).1 (swaps_no (by simpa using hc))
  case Assign ts e q =>
    match ts, h with
    | [t], h => exact snd_asg ih x h hk
    | [], h => simp [cS] at h
    | _ :: _ :: _, h => simp [cS] at h
  case AugAssign t op e q =>
    simp only [cS] at h
    split at h
    · rename_i i o a h1 h2 h3
      cases h
      obtain ⟨rfl, k2⟩ := ok_aug hk
      obtain rfl := bop_add h2
      obtain ⟨y, q2, rfl, t1⟩ := aug_of h1
      obtain ⟨m1, m2, _, _⟩ := target_of t1
      exact sd_aug cx.ft (by rw [cx.nN]; exact m1) (by rw [cx.sc]; exact m2) (.inl (x.fn y)) (cx.slot' t1) ((sndE G n).e cx h3 k2).1
    · cases h
  case If e a b q =>
    simp only [cS] at h
    split at h
    · rename_i u v w h1 h2 h3
      cases h
      obtain ⟨k1, k2, k3⟩ := ok3 (show (okC u && okSs v && okSs w) = true from hk)
      exact sd_if cx.ft ((sndE G n).e cx h1 k1).2 ((ih _ (Nat.le_refl _)).ss x h2 k2) ((ih _ (Nat.le_refl _)).ss x h3 k3)
    · cases h
  case While e b o q =>
    simp only [cS] at h
    split at h
    · cases h
    · rename_i hc
      simp only [Bool.or_eq_true, not_or, Bool.not_eq_true, Option.isSome_eq_false_iff, Option.isNone_iff_eq_none, Bool.not_eq_false'] at hc
      obtain ⟨hx, ho⟩ := hc
      obtain rfl := nil_of ho
      split at h
      · rename_i u v h1 h2
        cases h
        obtain ⟨k1, k2⟩ := ok2 (show (okC u && okSs v) = true from hk)
        exact sd_while cx.ft (x.own hx) ((sndE G n).e cx h1 k1).2 ((ih _ (Nat.le_refl _)).ss x h2 k2)
      · cases h
  case For t it b o q =>
    simp only [cS] at h
    split at h
    · cases h
    · rename_i hc
      simp only [Bool.or_eq_true, not_or, Bool.not_eq_true, Option.isSome_eq_false_iff, Option.isNone_iff_eq_none, Bool.not_eq_false'] at hc
      obtain ⟨hx, ho⟩ := hc
      obtain rfl := nil_of ho
      split at h
      · rename_i u v w h1 h2 h3
        cases h
        obtain ⟨k1, k2⟩ := ok2 (show (okIt v && okSs w) = true from hk)
        exact sd_for cx.ft (x.own hx) (by rw [cx.calm, hx]; rfl) ((sndE G n).i cx h2 k1 rfl) (cT_loop x hx h1) ((ih _ (Nat.le_refl _)).ss x h3 k2) (noset_i h2 X.env)
      · cases h
  case Return oe q =>
    cases oe with
    | none =>
      simp only [cS, Option.some.injEq] at h
      subst h
      exact sd_retN
    | some e =>
      simp only [cS] at h
      obtain ⟨a, h1, rfl⟩ := Option.map_eq_some_iff.mp h
      exact sd_ret cx.ft ((sndE G n).e cx h1 hk).1
  case Raise e y q =>
    simp only [cS] at h
    split at h
    · cases h
    · rename_i hc
      simp only [Bool.or_eq_true, not_or, Bool.not_eq_true, Option.isSome_eq_false_iff, Option.isNone_iff_eq_none] at hc
      obtain ⟨hx, rfl⟩ := hc
      split at h
      case h_2 => cases h
      rename_i cc args hr
      obtain ⟨cs, h1, rfl⟩ := Option.map_eq_some_iff.mp h
      obtain ⟨y, q1, q2, ps, rfl, hg, hl, hlen⟩ := raise_of hr
      obtain ⟨k1, k2, k3⟩ := ok3 (show (decide (cc < 8) && !cs.isEmpty && okCs cs) = true from hk)
      have hcc : cc < 8 := of_decide_eq_true k1
      cases args with
      | nil =>
        cases n with
        | zero => simp [cEs] at h1
        | succ n =>
          simp only [cEs, Option.some.injEq] at h1
          subst h1
          cases k2
      | cons e es =>
        have hc : X.calm = true := by rw [cx.calm, hx]; rfl
        obtain ⟨o1, _, _⟩ := okN_of (glob_of hg).2
        obtain ⟨s1, s2⟩ := (args_ok (X := X) (pos := q2) h1).st e es rfl
        exact sd_raise cx.ft hc (x.xd.ini hx y cc ps hl hcc (fun z => by rw [z] at hlen; cases hlen)) (cx.kn hx).rm (cx.gl hg) ((sndE G n).es cx h1 k3) o1 s1 s2
  case Try b hs o f q =>
    simp only [cS] at h
    split at h
    · cases h
    · rename_i hc
      simp only [Bool.or_eq_true, not_or, Bool.not_eq_true, Option.isSome_eq_false_iff, Option.isNone_iff_eq_none, Bool.not_eq_false'] at hc
      obtain ⟨⟨hx, ho⟩, hf⟩ := hc
      obtain rfl := nil_of ho
      obtain rfl := nil_of hf
      split at h
      case h_2 => cases h
      rename_i cb chs h1 h2
      cases h
      obtain ⟨k1, kk, i, cs, rfl, k2, k3⟩ := ok_try hk
      cases n with
      | zero => simp [cHs] at h2
      | succ n =>
      cases hs with
      | nil => simp [cHs] at h2
      | cons hd hs =>
      obtain ⟨t, xn, suite, q3⟩ := hd
      simp only [cHs] at h2
      split at h2
      case h_2 => cases h2
      rename_i k0 i0 h3 h4
      split at h2
      case h_2 => cases h2
      rename_i a r h5 h6
      cases h2
      cases n with
      | zero => simp [cHs] at h6
      | succ n =>
      cases hs with
      | cons hd2 hs2 =>
        obtain ⟨t2, x2, b2, q4⟩ := hd2
        simp only [cHs] at h6
        split at h6
        · split at h6
          · cases h6
          · cases h6
        · cases h6
      | nil =>
      obtain ⟨y, q5, ps, rfl, hg, hl⟩ := exc_of h3
      obtain ⟨m, rfl, l1, l2, t1⟩ := as_of h4
      obtain ⟨m1, m2⟩ := x.xd.nm _ _ _ hl
      obtain ⟨o1, _, _⟩ := okN_of (glob_of hg).2
      cases suite with
      | nil =>
        simp only [cSs, Option.some.injEq] at h5
        subst h5
        cases k2
      | cons b0 suite =>
        refine sd_tryAs cx.ft x.xd.ek (cx.xs hx) x.st x.fr (by rw [cx.nN]; exact (target_of t1).1) (by show X.env.scope.names.lookup m = _; rw [cx.sc]; exact l1) (cx.slot' t1) m2 ⟨cx.gl hg, o1, .inl m1⟩ (fun W pn xe tk hp => (ih _ (Nat.le_refl _)).ss (x.tr hx tk hp) h1 k1) fun a oe dd pn hz hd => (ih (n + 1) (by omega)).ss (x.suite hx t1 l1 l2 hz hd) h5 k3
  case Pass q =>
    simp only [cS, Option.some.injEq] at h
    subst h
    exact sd_pass
  case Break q =>
    simp only [cS, Option.some.injEq] at h
    subst h
    exact sd_brk
  case Continue q =>
    simp only [cS, Option.some.injEq] at h
    subst h
    exact sd_cnt
end
theorem sndS (G : Orc) (n : Nat) : SndS G n := by
  induction n using Nat.strongRecOn with
  | ind n ih =>
    cases n with
    | zero => exact sndS0
    | succ n =>
      have ih : ∀ m, m ≤ n → SndS G m := fun m h => ih m (by omega)
      exact ⟨snd_s ih, snd_ss ih⟩
end Sv
end -- Sem35
section -- Sem36
set_option Elab.async false
set_option linter.all false
set_option maxRecDepth 100000
set_option maxHeartbeats 4000000
/-! # All defs, to a depth -/
namespace Sv
open PySem PySem.Spec PyProof.Rows L2

/-- what the compiler is told of a module -/
structure Lm where
  gl : List (Str × GV)
  ats : List (Str × Nat)
  ms : List (Str × Nat × List (List Str))
  efs : List (Nat × Str)
def Lm.sta (L : Lm) (N : List Str) (scope : Scope) (fps : List Str) : Sta := ⟨N, scope, L.gl, fps, none, 0, L.efs, L.ats, L.ms⟩
section
variable {P : Program} {w : World} {K : PySem.W.Frag} {mg : Str → Option Value} {base : Heap} {Z : Zx} {L : Lm} {F : Nat → Option Fn} {exs : List Nat}
/-- a def's text, and what came of it -/
structure Cmp (L : Lm) (ps : List Str) (body : List Stmt) (scope : Scope) (fn : Fn) : Prop where
  ex : ∃ N fps n p, FnScope N ps scope ∧ fn.slots = N.length ∧ ps.length = fn.ps + fn.fs ∧ (∀ j, j < fn.fs → ∃ x, x ∈ fps ∧ N[fn.ps + j]? = some x) ∧ cSs (L.sta N scope fps) n p body = some fn.body ∧ okSs fn.body = true
/-- a def of the module -/
structure DefE (K : PySem.W.Frag) (Z : Zx) (L : Lm) (F : Nat → Option Fn) (id : Nat) (ps : List Str) : Prop where
  ex : ∃ x qual params body scope fd, FunD K x qual params body scope [] [] (Z.fnA id) fd ∧ Binds K fd ps [] ∧ ∀ fn, F id = some fn → Cmp L ps body scope fn
/-- the module -/
structure ModF (P : Program) (w : World) (K : PySem.W.Frag) (mg : Str → Option Value) (base : Heap) (Z : Zx) (L : Lm) (F : Nat → Option Fn) (exs : List Nat) : Prop where
  fn : ∀ x id ps b, L.gl.lookup x = some (.fn id ps b) → mg x = some (.ref (Z.fnA id)) ∧ DefE K Z L F id ps
  cls : ∀ x c ps, L.gl.lookup x = some (.cls c ps) → mg x = some (.ref (Z.clA c)) ∧ c ∈ Z.cs ∧ Mk K (Z.clA c) (Z.fnA (mid c mInit)) ∧ ∃ qs, DefE K Z L F (mid c mInit) qs
  mth : ∀ y m pss, L.ms.lookup y = some (m, pss) → ∀ c, (F (mid c m)).isSome = true → Meth K (Z.clA c) y (Z.fnA (mid c m)) ∧ (∃ ps, DefE K Z L F (mid c m) ps) ∧ ∀ f ∈ Z.ats, Z.atN f ≠ y
  cf : ClsF K Z
  nn : ∀ x ∈ bnames, L.gl.lookup x = none → mg x = none
  con : ∀ x d, L.gl.lookup x = some (.con d) → ∃ u v, mg x = some u ∧ RelV v u ∧ ∀ μ n H, Rp Z μ n H d v
  ats : ∀ f i, L.ats.lookup f = some i → i ∈ Z.ats ∧ Z.atN i = f
  exf : ∀ k f, L.efs.lookup k = some f → XfC K (Z.exA k) ∧ PySem.W.findIn K (.ref (Z.exA k)) f = some none ∧ Z.exF k = [f]
  len : ∃ pss, L.ms.lookup ("__len__" : Str) = some (mLen, pss)
  exc : ∀ x c ps, L.gl.lookup x = some (.exc c ps) → mg x = some (.ref (Z.exA c)) ∧ c ∈ exs
  ini : ∀ x c ps, L.gl.lookup x = some (.exc c ps) → c < 8 → ps ≠ [] → ∀ X : Cx, X.prog = P → X.w = w → X.K = K → X.mg = mg → X.base = base → ∀ k, 1 ≤ k → ExF X Z k x c
  ek : ∀ c k, c ∈ exs → k ∈ exs → PySem.W.exmOne K (.ref (Z.exA c)) (.ref (Z.exA k)) = some (decide (k = c))
  hK : K = Z.K
  hw : w = Z.w
  ck : CloKeep Z
theorem run_exs {rp : PyData → Str} {turns : Nat} : ∀ d, (run F exs rp turns d).exs = exs
  | 0 => rfl
  | _ + 1 => rfl
theorem run_has {rp : PyData → Str} {turns : Nat} {m : Nat} : ∀ d, (run F exs rp turns d).has m = (F m).isSome
  | 0 => rfl
  | _ + 1 => rfl
/-- a def of which nothing is promised -/
theorem fnS_bad {k : Nat} {f : Addr} {fd : FuncData} {ps : List Str} {call : List D → List FV → Sto → Sto → R D} (h : ∀ ds φ fr lv, call ds φ fr lv = .bad) : FnS P w K mg base Z k f fd ps call := by
  have no : ∀ {clo vs H Q E}, spI Z call clo vs H Q E → False := fun {clo vs H Q E} ⟨μ, ds, φ, ws, fs, fr, lv, e, r, h1, h2, g⟩ => by
    rw [h] at g
    exact g
  exact ⟨fun clo vs H Q E q => (no q).elim, fun A outer s H args us vs Q E hr hg e0 hb r q => (no q).elim⟩
theorem fnS_all (M : ModF P w K mg base Z L F exs) {rp : PyData → Str} {turns : Nat} : ∀ (d id : Nat) (ps : List Str), DefE K Z L F id ps →
    ∃ fd, FnS P w K mg base Z (2 * d + 1) (Z.fnA id) fd ps ((run F exs rp turns d).call id) ∧ Binds K fd ps [] ∧ PySem.W.keepIn K (.ref (Z.fnA id)) = true := by
  intro d
  induction d with
  | zero =>
    intro id ps e
    obtain ⟨x, qual, params, body, scope, fd, Fd, B, _⟩ := e.ex
    exact ⟨fd, fnS_bad fun _ _ _ _ => rfl, B, Fd.kp⟩
  | succ d ih =>
    intro id ps e
    obtain ⟨x, qual, params, body, scope, fd, Fd, B, hc⟩ := e.ex
    refine ⟨fd, ?_, B, Fd.kp⟩
    cases hF : F id with
    | none => exact fnS_bad fun _ _ _ _ => by simp only [run, hF]
    | some fn =>
      obtain ⟨N, fps, n, p, S, h1, h2, h3, h4, h5⟩ := (hc fn hF).ex
      obtain ⟨oc, od, dV, kV, doc, pm, an, cdv, ct, osl, rfl, lk, hcd, _, _⟩ := Fd.ex
      refine fnS_of (k := 2 * d + 2) (d := fn) (G := run F exs rp turns d) lk hcd S M.hK M.hw M.ck h1 h2 (fun ds φ fr lv => .inl (by simp only [run, hF])) fun A outer s H E hr ft => ?_
      refine (sndS (run F exs rp turns d) n).ss (k := 2 * d + 1) (S := L.sta N scope fps) ⟨⟨ft, rfl, rfl, ⟨M.con, M.nn, M.ats, M.cf, M.exf, M.len⟩, fun _ => ⟨fun x id ps b hx => ?_, fun x c ps hx => ?_, fun y m pss hy c hh => ?_, M.cf, hr⟩, rfl, h3, (fun _ z => nomatch z), fun _ => rfl⟩,
        ⟨fun x c ps hx => ?_, fun _ x c ps hx hlt hne => ?_, ⟨fun c k hc hk => ?_⟩⟩, fun _ => rfl, S.kind, rfl, rfl, fun _ => passes_of rfl⟩ h4 h5
      · obtain ⟨a, b⟩ := M.fn x id ps b hx
        exact ⟨a, ih id ps b⟩
      · obtain ⟨a, b, c', qs, e⟩ := M.cls x c ps hx
        exact ⟨a, b, c', qs, ih _ qs e⟩
      · rw [run_has] at hh
        obtain ⟨a, ⟨qs, e⟩, b⟩ := M.mth y m pss hy c hh
        exact ⟨a, ⟨qs, ih _ qs e⟩, b⟩
      · rw [run_exs]
        exact M.exc x c ps hx
      · exact M.ini x c ps hx hlt hne _ rfl rfl rfl rfl rfl _ (by omega)
      · rw [run_exs] at hc hk
        exact M.ek c k hc hk
end
end Sv
end -- Sem36
section -- Sem37
set_option Elab.async false
set_option linter.all false
set_option maxRecDepth 100000
set_option maxHeartbeats 4000000
/-! # The head's facts, the law's call -/
namespace Sv
open PySem PySem.Spec PyProof.Rows L2

/-! ### what is read of the heap behind the top: no list is -/
def frN (g : Addr → Option Obj) (as : List Addr) : PySem.W.Frag := (He.frG g as).filter fun p => match p.2.cls with
  | .type n => n != "list"
  | _ => true
theorem lookup_mem {α : Type} {a : Addr} {o : α} : ∀ {l : List (Addr × α)}, l.lookup a = some o → (a, o) ∈ l
  | [], h => nomatch h
  | (b, u) :: r, h => by
    by_cases c : a = b
    · subst c
      rw [List.lookup_cons_self] at h
      cases h
      exact List.mem_cons_self ..
    · have e : (a == b) = false := by simpa using c
      rw [List.lookup_cons, e] at h
      exact List.mem_cons_of_mem _ (lookup_mem h)
theorem frN_at {g : Addr → Option Obj} {as : List Addr} {a : Addr} {o : Obj} (h : (frN g as).lookup a = some o) : g a = some o ∧ o.cls ≠ .type "list" := by
  have m : (a, o) ∈ frN g as := lookup_mem h
  unfold frN at m
  rw [List.mem_filter] at m
  obtain ⟨m1, m2⟩ := m
  refine ⟨?_, fun z => ?_⟩
  · unfold He.frG at m1
    rw [List.mem_filterMap] at m1
    obtain ⟨b, _, e⟩ := m1
    obtain ⟨o2, e1, e2⟩ := Option.map_eq_some_iff.mp e
    cases e2
    exact e1
  · have m2 : (match o.cls with
      | .type n => n != "list"
      | _ => true) = true := m2
    rw [z] at m2
    exact absurd m2 (by decide)
abbrev AlX : Type := He.AlD × Bool
def obsX (fa : List He.Fa) (fn : List He.DefD) (ex : PySem.W.Frag → Bool) (K : PySem.W.Frag) : AlX := (He.obsD fa fn K, ex K)
def obsXG (n : Nat) (fa : List He.Fa) (fn : List He.DefD) (ex : PySem.W.Frag → Bool) (g : Addr → Option Obj) : AlX := obsX fa fn ex (frN g (He.asD g n))
def NoL (K : PySem.W.Frag) : Prop := ∀ a o, K.lookup a = some o → o.cls ≠ .type "list"
/-- the reading of the head: facts, defs, further tests -/
def hookX (n : Nat) (fa : List He.Fa) (fn : List He.DefD) (ex : PySem.W.Frag → Bool) : PySem.W.Hook where
  α := AlX
  obs := fun s => obsXG n fa fn ex s.heap.get?
  val := fun _ => (He.valD fn, true)
  says := fun _ h => ∃ K : PySem.W.Frag, K.In h ∧ He.SaysD fa fn K ∧ ex K = true ∧ NoL K
  of := fun _ s e => ⟨frN s.heap.get? (He.asD s.heap.get? n), fun a o q => (frN_at q).1, congrArg Prod.fst e, congrArg Prod.snd e, fun a o q => (frN_at q).2⟩
  keeps := fun _ _ _ ⟨K, hK, c⟩ k => ⟨K, PySem.W.Frag.In.keeps hK k, c⟩
theorem obsXG_eq {n : Nat} {fa : List He.Fa} {fn : List He.DefD} {ex : PySem.W.Frag → Bool} {g : Addr → Option Obj} {s : Shared} (h : ∀ a, g a = s.heap.get? a) : obsXG n fa fn ex g = (hookX n fa fn ex).obs s := by
  obtain rfl : g = s.heap.get? := funext h
  rfl
/-! ### the law's call -/
section
variable {P : Program} {w : World} {K : PySem.W.Frag} {mg mb : Str → Option Value} {Z : Zx} {k : Nat} {fa a : Addr} {x : Str} {vs : List Value} {ns : List Int} {s : Shared}
theorem rps_ints {μ : Nat → Addr} {n : Nat} {H : Hp} : ∀ ns : List Int, Rps Z μ n H (ns.map D.int) (ns.map V.int)
  | [] => by simp [Rps]
  | i :: ns => by
    simp only [List.map_cons, Rps]
    exact ⟨_, _, rfl, rp_sc.2.1 _, rps_ints ns⟩
theorem law_callS {call : List D → List FV → Sto → Sto → R D} (KX : K.In s.heap) (nl : NoL K) (hns : s.heap.Ns mainGlobals mg) (hb : s.heap.Ns builtinsNs mb) (hbb : ∀ x : Str, x ≠ "__name__" → mb x = bootBuiltins x) (hlim : s.heap.NoLimit) (hg : s.gens = #[])
    (ha : s.heap.get? a = some { cls := .type "list", data := .seq vs.toArray }) (hi : IntsAre vs ns) (hl : ns.length ≤ sizeLine) (hr : Room k callerA)
    (F : ∀ base : Heap, K.In base → base.Ns mainGlobals mg → ∃ fd, FnS P w K mg base Z k fa fd [x] call ∧ Binds K fd [x] [])
    (hans : ∃ t, call [.ref 0] [] [.lst (ns.map .int)] [] = .ok (.bl true) t) :
    codeAny (model P w) callerA (.call (.ref fa) ⟨[.ref a], []⟩) (fun r s' => r = .ok (.ret (.bool true)) ∧ OldK s.heap s'.heap ∧ s'.os = s.os ∧ AllBare s'.gens) s := by
  have rv := vals_ints hi
  have noK : K.lookup a = none := by
    cases q : K.lookup a with
    | none => rfl
    | some o =>
      have e := KX a o q
      rw [ha] at e
      cases e
      exact absurd rfl (nl a _ q)
  -- the script alone is told, as a thing that stays
  obtain ⟨H, hH⟩ : ∃ H : Hp, H = fun b => if b = a then some (.frz { cls := .type "list", data := .seq vs.toArray } (.lst (ns.map V.int))) else none := ⟨_, rfl⟩
  have Ha : H a = some (.frz { cls := .type "list", data := .seq vs.toArray } (.lst (ns.map V.int))) := by rw [hH]; exact if_pos rfl
  have Hn : ∀ {b}, b ≠ a → H b = none := fun {b} hb => by rw [hH]; exact if_neg hb
  have seen : ∀ {b : Addr} {o : Obj}, s.heap.get? b = some o → b ≠ a → (hidT s.heap H).get? b = some o := fun e n => hidT_get e (Hn n)
  have notA : ∀ {b : Addr} {o : Obj} {es : Array DictEntry} {ep : Nat}, s.heap.get? b = some o → o.data = .dict es ep → b ≠ a := fun {b o es ep} e d z => by
    subst z
    rw [ha] at e
    cases e
    cases (show Data.seq vs.toArray _ = Data.dict es ep from d)
  have nsK : ∀ {b : Addr} {m : Str → Option Value}, s.heap.Ns b m → (hidT s.heap H).Ns b m := fun {b m} ⟨o, es, ep, e, d, r⟩ => ⟨o, es, ep, seen e (notA e d), d, r⟩
  have hKb : K.In (hidT s.heap H) := fun b o e => seen (KX b o e) fun z => by
    subst z
    rw [noK] at e
    cases e
  have hM : Mod K mg (hidT s.heap H) := ⟨hKb, nsK hns, ⟨mb, nsK hb, hbb⟩, let ⟨mc, h1, h2⟩ := hlim; ⟨mc, nsK h1, h2⟩⟩
  have hok : HOk P w H s.heap := fun b u z => by
    by_cases hb : b = a
    · subst hb
      rw [Ha] at z
      cases z
      exact ⟨ha, by rw [List.length_map]; exact hl, vs, _, rv, ha⟩
    · rw [Hn hb] at z
      cases z
  have e0 : Env0 P w K mg (hidT s.heap H) callerA [] s H := ⟨rfl, hM, fun b o e => of_hidT e, Nat.le_of_eq (hidT_size _ _), trivial, fun b hb => absurd (show b ∈ ([] : List Addr) from hb) (by simp), hok, .of_eq hg⟩
  obtain ⟨t, ht⟩ := hans
  have sp : spI Z call (Z.cloS s H []) [.ref a] H (fun v _ => v = .bl true) fun _ _ _ => False := by
    refine ⟨fun _ => a, [.ref 0], [], [.ref a], [], [.lst (ns.map .int)], [], rfl, ⟨fun i j hi hj _ => ?_, fun l o e => ?_⟩, ?_, .nil, ?_⟩
    · simp at hi hj
      omega
    · have hl := look_lt e
      have : l = 0 := by simpa using hl
      subst this
      cases e
      exact ⟨ns.map V.int, rps_ints ns, .inr ⟨_, Ha⟩⟩
    · simp only [Rps, Rp]
      exact ⟨.ref a, [], rfl, ⟨by simp, rfl⟩, rfl⟩
    · rw [ht]
      intro v H' μ' r g hv
      simpa only [Rp] using hv
  obtain ⟨fd, hF, hbind⟩ := F _ hKb (nsK hns)
  refine codeAny_mono (hF.run callerA [] s H ⟨[.ref a], []⟩ [.ref a] [.ref a] _ _ hr rfl e0 (hbind s [.ref a] KX rfl) (.cons rfl .nil) sp) fun r s' h => ?_
  cases r with
  | error e =>
    obtain ⟨_, _, _, _, _, _, _, _, _, _, _, _, z⟩ := h
    exact z.elim
  | ok fl =>
    cases fl with
    | next => exact False.elim h
    | brk => exact False.elim h
    | cont => exact False.elim h
    | ret u =>
      obtain ⟨v, H', os, bare, un, hok', r', q⟩ := h
      obtain rfl : v = V.bl true := q
      obtain rfl : u = Value.bool true := r'
      refine ⟨rfl, OldK.of_keep fun b o e => ?_, os, bare⟩
      by_cases hb : b = a
      · subst hb
        obtain ⟨e2, _⟩ := hok' b _ (un.frzs b _ _ Ha)
        rw [ha] at e
        cases e
        exact e2
      · exact un.keep b o e (Hn hb) (by intro z; exact absurd (show b ∈ ([] : List Addr) from z) (by simp)) (by simp)
end
/-- a law -/
theorem walk_S {l : PySem.W.OpenLaw} {n k : Nat} {q : Program} {loose : List Str} {XP : (Str → Option Value) → Heap → Prop} {YP : World → Heap → Prop} {d : DefRec} {x : Str}
    (hn : l.most = some n) (hn2 : n ≤ sizeLine) (hdf : d.params.defaults = []) (hr : Room k callerA)
    (F : ∀ (w : World) (mg : Str → Option Value) (fa : Addr) (h : Heap), YP w h → h.Ns mainGlobals mg → mg d.name = some (.ref fa) →
      ∃ (K : PySem.W.Frag) (Z : Zx) (call : List D → List FV → Sto → Sto → R D), K.In h ∧ NoL K ∧
        (∀ ns : List Int, ns.length ≤ n → ∃ t, call [.ref 0] [] [.lst (ns.map .int)] [] = .ok (.bl true) t) ∧
        ∀ base : Heap, K.In base → base.Ns mainGlobals mg → ∃ fd, FnS l.prog w K mg base Z k fa fd [x] call ∧ Binds K fd [x] []) :
    PySem.W.WalkO q loose XP YP l.row.toRowW d [] (fun f vs => PySem.call f vs) := by
  refine Att.attach_call hn hdf fun w s₀ s₁ mg mb fa o pm cd doc a vs ns G Y ho hd hcd hmg hobj hints hlen hg => ?_
  obtain ⟨K, Z, call, KX, nl, hans, hF⟩ := F w mg fa _ Y G.T.g hmg
  exact law_callS KX nl G.T.g G.T.b G.T.builtins G.T.nolimit hg hobj hints (Nat.le_trans hlen hn2) hr hF (hans ns hlen)
end Sv
end -- Sem37
section -- Sem38
set_option Elab.async false
set_option linter.all false
set_option maxRecDepth 100000
set_option maxHeartbeats 4000000
/-! # Own errors' __init__ -/
namespace Sv
open PySem PySem.Spec PyProof.Rows L2

/-- the message's reading: any text -/
def tMsg (kd : Bool) : TE := fun σ H Q => ∃ v : V, σ[1]? = some (some v) ∧ (kd = true → ∃ i : Int, v = .int i ∧ i.natAbs.log2 < 1920) ∧ ∀ z : Str, Q (.str z) H
theorem msg_txt {X : Cx} {z : Str} {j : Nat} {pos : Pos} : PE X (.Constant (.str z) j pos) (tMsg false) := pe_str.imp fun σ H Q ⟨_, _, _, q⟩ => q z
theorem msg_num {X : Cx} {y z1 z2 : Str} {j1 j2 : Nat} {p1 p2 p3 p4 pos : Pos} (hN : X.N[1]? = some y) (hv : Vis X.env.scope y) (o1 : (y == ("__debug__" : Str)) = false) (o2 : (y == ("__classdict__" : Str)) = false) (h1 : z1.length ≤ 1000) (h2 : z2.length ≤ 1000) :
    PE X (.JoinedStr [.Constant (.str z1) j1 p1, .FormattedValue (.Name y p2) (-1) none p3, .Constant (.str z2) j2 p4] pos) (tMsg true) :=
  (pe_joined (.cons pe_str (.cons (pe_fmt (pe_var (i := 1) hN hv o1 o2)) (.cons pe_str .nil)))).imp fun σ H Q ⟨v, hv, hi, q⟩ => by
    obtain ⟨i, rfl, hb⟩ := hi rfl
    have hl : (Str.ofString (toString i)).length ≤ 1921 := by
      rw [PySem.ofString_length]
      exact int_text_length_le (by decide) hb
    have hz := sizeLine_eq
    refine ⟨z1, rfl, ?_, .int i, hv, .inr ⟨i, rfl, hb, _, rfl, ?_, z2, rfl, ?_, q _⟩⟩
    · rw [str_len]; show 0 + _ ≤ _; omega
    · rw [str_len, str_len]; show 0 + _ + _ ≤ _; omega
    · rw [str_len, str_len, str_len]; show 0 + _ + _ + _ ≤ _; omega
theorem msg_num0 {X : Cx} {y z1 : Str} {j1 : Nat} {p1 p2 p3 pos : Pos} (hN : X.N[1]? = some y) (hv : Vis X.env.scope y) (o1 : (y == ("__debug__" : Str)) = false) (o2 : (y == ("__classdict__" : Str)) = false) (h1 : z1.length ≤ 1000) :
    PE X (.JoinedStr [.Constant (.str z1) j1 p1, .FormattedValue (.Name y p2) (-1) none p3] pos) (tMsg true) :=
  (pe_joined (.cons pe_str (.cons (pe_fmt (pe_var (i := 1) hN hv o1 o2)) .nil))).imp fun σ H Q ⟨v, hv, hi, q⟩ => by
    obtain ⟨i, rfl, hb⟩ := hi rfl
    have hl : (Str.ofString (toString i)).length ≤ 1921 := by
      rw [PySem.ofString_length]
      exact int_text_length_le (by decide) hb
    have hz := sizeLine_eq
    refine ⟨z1, rfl, ?_, .int i, hv, .inr ⟨i, rfl, hb, _, rfl, ?_, q _⟩⟩
    · rw [str_len]; show 0 + _ ≤ _; omega
    · rw [str_len, str_len]; show 0 + _ + _ ≤ _; omega
theorem ve_form {env : PySem.Env} {m : Expr} {p1 p2 p3 p5 : Pos} (hl : (p2.endLine == p5.line) = true) (hst : starEach [m] env = [(false, eval m env)]) :
    eval (.Call (.Attribute (.Name "ValueError" p1) "__init__" p2) [.Name "self" p3, m] [] p5) env = (do
      let ov ← eval (.Name "ValueError" p1) env
      standAt p2.atName
      let (f, first) ← holding [ov] (getMethod ov "__init__" (do return (← importBound (.Name "ValueError" p1) env).getD true))
      callWith p5 f first (backTo p5 (starEach [.Name "self" p3, m] env)) (backToKw p5 (keywordEach [] env))) := by
  rw [arm_eval_Call]
  have hs2 : starEach [Expr.Name "self" p3, m] env = [(false, eval (.Name "self" p3) env), (false, eval m env)] := by
    show (false, _) :: starEach [m] env = _
    rw [hst]
  have hf2 : methodCallForm ([Expr.Name "self" p3, m].length + ([] : List Keyword).length) (backTo p5 (starEach [Expr.Name "self" p3, m] env)) (backToKw p5 (keywordEach [] env)) = true := by
    rw [hs2]
    rfl
  unfold methodCall
  rw [hf2]
  have e2 : methodCallPos true (.Name "ValueError" p1) env p2 p5 = pure p5 := by
    unfold methodCallPos
    rw [hl]
    rfl
  rw [e2]
  rfl
/-- what is known of an own error over ValueError -/
theorem exF_of {X : Cx} {Z : Zx} {k : Nat} {x nm qual f y : Str} {c : Nat} {fI : Addr} {fd : FuncData} {params : Arguments} {scope : Scope} {m : Expr} {p1 p2 p3 p5 p6 q1 q2 q3 q4 : Pos}
    (hk : 1 ≤ k) (mg : X.mg x = some (.ref (Z.exA c))) (oex : OexC X.K (Z.exA c)) (hf : Z.exF c = [f]) (i1 : PySem.W.findIn X.K (.ref (Z.exA c)) "__init__" = some (some (.ref fI))) (i2 : PySem.W.typeIn X.K (.ref fI) = some (.type "function"))
    (Fd : FunD X.K nm qual params [.Expr (.Call (.Attribute (.Name "ValueError" p1) "__init__" p2) [.Name "self" p3, m] [] p5) p6, .Assign [.Attribute (.Name "self" q1) f q2] (.Name y q3) q4] scope [] [] fI fd)
    (hb : Binds X.K fd [("self" : Str), y] []) (S : FnScope [("self" : Str), y] [("self" : Str), y] scope) (hg : scope.names.lookup ("ValueError" : Str) = some .globalImplicit) (hve : X.mg "ValueError" = none) (vV : PySem.W.findCls X.K (.type "ValueError") (.type "type") "__init__" = some (.val (.builtin "ValueError.__init__")))
    (hno : PySem.W.findIn X.K (.ref (Z.exA c)) f = some none) (ok : okN y = true) (hl : (p2.endLine == p5.line) = true) (hm : ∀ X' : Cx, X'.N = [("self" : Str), y] → X'.env.scope = scope → PE X' m (tMsg (exInt.contains c))) (hst : ∀ (X' : Cx), starEach [m] X'.env = [(false, eval m X'.env)]) : ExF X Z k x c := by
  refine ⟨mg, oex, fI, fd, [("self" : Str), y], f, hf, i1, i2, ?_, hb⟩
  have vis : ∀ z ∈ [("self" : Str), y], Vis scope z := fun z hz => (S.par z hz).elim .inl fun q => .inr (.inl q)
  obtain ⟨o1, o2, _⟩ := okN_of ok
  refine FnOk.mono (FunD.ok (k := 0) Fd S (fun vs H Q E ⟨a, v, e, _⟩ => by rw [e]; rfl) fun cdv A outer s H vs Q E hr hsp => ?_) hk
  refine ⟨_, pss_cons (ps_expr (pe_veinit (pl := do return (← importBound (.Name "ValueError" p1) (envOfC qual scope s.heap.objs.size fI cdv)).getD true) hg hve vV (pa_cons (pe_var (i := 0) rfl (vis _ (by simp)) (by decide) (by decide)) (pa_cons (hm _ rfl rfl) pa_nil (hst _)) rfl) ?_ rfl (by rw [hst]; rfl)) rfl)
    (pss_cons (ps_ost (pe_var (i := 0) rfl (vis _ (by simp)) (by decide) (by decide)) (pe_var (i := 1) rfl (vis _ (by simp)) o1 o2) rfl) pss_nil), ?_⟩
  · exact ve_form hl (hst _)
  · obtain ⟨a, v, rfl, ha, hi, q⟩ := hsp
    exact ⟨.ref a, rfl, v, rfl, hi, fun z => ⟨a, Z.exA c, [.str z], rfl, (by show 1 ≤ 1000; decide), oex, ha, v, rfl, .ref a, rfl, a, Z.exA c, rfl, oex, hno, .inl ⟨ha, fun dx hd ne => q dx hd ne⟩⟩⟩
end Sv
end -- Sem38
section -- Sem39
set_option Elab.async false
set_option linter.all false
set_option maxRecDepth 100000
set_option maxHeartbeats 4000000
/-! # Facts of the head -/
namespace Sv
open PySem PySem.Spec PyProof.Rows L2

/-- each of them -/
inductive AllP {α : Type} (p : α → Prop) : List α → Prop where
  | nil : AllP p []
  | cons {a : α} {l : List α} (h : p a) (r : AllP p l) : AllP p (a :: l)
theorem AllP.of {α : Type} {p : α → Prop} {l : List α} (h : AllP p l) : ∀ a ∈ l, p a := by
  induction h with
  | nil => intro a ha; cases ha
  | cons h _ ih =>
    intro a ha
    rcases List.mem_cons.mp ha with rfl | ha
    · exact h
    · exact ih a ha
theorem AllP.app {α : Type} {p : α → Prop} {l m : List α} (h : AllP p l) (k : AllP p m) : AllP p (l ++ m) := by
  induction h with
  | nil => exact k
  | cons h _ ih => exact .cons h ih
theorem str_lookup {α : Type} {x : Str} {v : α} {l : List (Str × α)} (h : l.lookup x = some v) : (x, v) ∈ l := PySem.mem_of_lookup h
theorem nat_lookup {α : Type} {x : Nat} {v : α} : ∀ {l : List (Nat × α)}, l.lookup x = some v → (x, v) ∈ l
  | [], h => nomatch h
  | (b, u) :: r, h => by
    by_cases c : x = b
    · subst c
      rw [List.lookup_cons_self] at h
      cases h
      exact List.mem_cons_self ..
    · have e : (x == b) = false := by simpa using c
      rw [List.lookup_cons, e] at h
      exact List.mem_cons_of_mem _ (nat_lookup h)
/-! ### own errors over ValueError -/
def oexB (K : PySem.W.Frag) (C : Addr) : Bool := (match K.lookup C with
  | some ⟨.type "type", _, .cls cd, sl⟩ => (match cd.mro, sl.toList with
    | .ref C' :: bm, [_, _, _, _, some (.builtin n), _] => C' == C && n == "ValueError.__new__" && !cd.hasDel && cd.hasDict && PySem.HandSPX.refsVE bm
    | _, _ => false)
  | _ => false) && (He.eqO (PySem.W.findIn K (.ref C) "__setattr__") (some (some (.builtin "object.__setattr__"))) && (decide (PySem.W.subIn K (.ref C) (.type "BaseException") = some true) && (decide (PySem.W.typeIn K (.ref C) = some (.type "type")) && PySem.W.keepIn K (.ref C))))
theorem oexB_ok {K : PySem.W.Frag} {C : Addr} (h : oexB K C = true) : OexC K C := by
  unfold oexB at h
  obtain ⟨q, h⟩ := He.ba h
  obtain ⟨h1, h⟩ := He.ba h
  obtain ⟨h2, h⟩ := He.ba h
  obtain ⟨h3, h4⟩ := He.ba h
  refine ⟨?_, He.eqO_ok h1, of_decide_eq_true h2, of_decide_eq_true h3, h4⟩
  split at q
  · rename_i dd cd sl ho
    split at q
    · rename_i C' bm k0 k1 k2 k3 n k5 hm hs
      simp only [Bool.and_eq_true, beq_iff_eq, Bool.not_eq_true'] at q
      obtain ⟨⟨⟨⟨rfl, rfl⟩, hdel⟩, hdict⟩, hr⟩ := q
      obtain ⟨nm, bs, mro, ns, qn, hd, sn, sub, ab, col, del⟩ := cd
      dsimp only at hm hdel hdict
      subst hm hdel hdict
      have hsl : sl = #[k0, k1, k2, k3, some (.builtin "ValueError.__new__"), k5] := by
        obtain ⟨l⟩ := sl
        simp only at hs
        rw [hs]
      subst hsl
      exact ⟨_, _, _, _, _, _, _, _, _, _, _, _, _, _, _, ho, hr⟩
    · cases q
  · cases q
/-- the tests of one error: its class, its __init__, its field -/
def exB (K : PySem.W.Frag) (C : Addr) (f : Str) : Bool := oexB K C && (decide (PySem.W.typeIn K (.ref (He.ma K C "__init__")) = some (.type "function")) && (He.eqO (PySem.W.findIn K (.ref C) "__init__") (some (some (.ref (He.ma K C "__init__")))) && (He.eqO (PySem.W.findIn K (.ref C) f) (some none) && xfB K C)))
def veB (K : PySem.W.Frag) : Bool := match PySem.W.findCls K (.type "ValueError") (.type "type") "__init__" with
  | some (.val (.builtin n)) => n == "ValueError.__init__"
  | _ => false
theorem veB_ok {K : PySem.W.Frag} (h : veB K = true) : PySem.W.findCls K (.type "ValueError") (.type "type") "__init__" = some (.val (.builtin "ValueError.__init__")) := by
  unfold veB at h
  split at h
  · rename_i n e
    rw [e, eq_of_beq h]
  · cases h
/-- all of them end each at its own clause -/
def ekB (K : PySem.W.Frag) (exA : Nat → Addr) (exs : List Nat) : Bool := exs.all fun c => exs.all fun k => decide (PySem.W.exmOne K (.ref (exA c)) (.ref (exA k)) = some (decide (k = c)))
theorem ekB_ok {K : PySem.W.Frag} {exA : Nat → Addr} {exs : List Nat} (h : ekB K exA exs = true) : ∀ c k, c ∈ exs → k ∈ exs → PySem.W.exmOne K (.ref (exA c)) (.ref (exA k)) = some (decide (k = c)) := fun c k hc hk =>
  of_decide_eq_true (List.all_eq_true.mp (List.all_eq_true.mp h c hc) k hk)
theorem cloKeep_no {Z : Zx} (h : ∀ s H o i a v, ¬ Z.cloS s H o i a v) : CloKeep Z := fun H H' s s' outer env id a vs _ _ q => (h _ _ _ _ _ _ q).elim
/-- the classes' facts, none but what is asked -/
theorem Cmp.mk' {L : Lm} {ps N fps : List Str} {body : List Stmt} {scope : Scope} {fn : Fn} (n p : Nat) (S : FnScope N ps scope) (h1 : fn.slots = N.length) (h2 : ps.length = fn.ps + fn.fs) (h3 : fn.fs = 0) (h4 : cSs (L.sta N scope fps) n p body = some fn.body) (h5 : okSs fn.body = true) : Cmp L ps body scope fn :=
  ⟨N, fps, n, p, S, h1, h2, fun j hj => by omega, h4, h5⟩
end Sv
namespace Sv
open PySem PySem.Spec PyProof.Rows L2
/-- what is known of a module's name -/
def GOk (K : PySem.W.Frag) (mg : Str → Option Value) (Z : Zx) (L : Lm) (F : Nat → Option Fn) (exs : List Nat) (p : Str × GV) : Prop := match p.2 with
  | .fn id ps _ => mg p.1 = some (.ref (Z.fnA id)) ∧ DefE K Z L F id ps
  | .cls c _ => mg p.1 = some (.ref (Z.clA c)) ∧ c ∈ Z.cs ∧ Mk K (Z.clA c) (Z.fnA (mid c mInit)) ∧ ∃ qs, DefE K Z L F (mid c mInit) qs
  | .exc c ps => mg p.1 = some (.ref (Z.exA c)) ∧ c ∈ exs ∧ (c < 8 → ps ≠ [] → ∀ X : Cx, X.K = K → X.mg = mg → ∀ k, 1 ≤ k → ExF X Z k p.1 c)
  | .con d => ∃ u v, mg p.1 = some u ∧ RelV v u ∧ ∀ μ n H, Rp Z μ n H d v
  | .tab _ => True
def MOk (K : PySem.W.Frag) (Z : Zx) (L : Lm) (F : Nat → Option Fn) (p : Str × Nat × List (List Str)) : Prop := ∀ c, (F (mid c p.2.1)).isSome = true → Meth K (Z.clA c) p.1 (Z.fnA (mid c p.2.1)) ∧ (∃ ps, DefE K Z L F (mid c p.2.1) ps) ∧ ∀ f ∈ Z.ats, Z.atN f ≠ p.1
theorem modF_of {P : Program} {w : World} {K : PySem.W.Frag} {mg : Str → Option Value} {base : Heap} {Z : Zx} {L : Lm} {F : Nat → Option Fn} {exs : List Nat} (g : AllP (GOk K mg Z L F exs) L.gl) (m : AllP (MOk K Z L F) L.ms) (cf : ClsF K Z) (nn : ∀ x ∈ bnames, L.gl.lookup x = none → mg x = none)
    (ats : AllP (fun p => p.2 ∈ Z.ats ∧ Z.atN p.2 = p.1) L.ats) (exf : AllP (fun p => XfC K (Z.exA p.1) ∧ PySem.W.findIn K (.ref (Z.exA p.1)) p.2 = some none ∧ Z.exF p.1 = [p.2]) L.efs) (len : ∃ pss, L.ms.lookup ("__len__" : Str) = some (mLen, pss))
    (ek : ∀ c k, c ∈ exs → k ∈ exs → PySem.W.exmOne K (.ref (Z.exA c)) (.ref (Z.exA k)) = some (decide (k = c))) (hK : K = Z.K) (hw : w = Z.w) (ck : CloKeep Z) : ModF P w K mg base Z L F exs where
  fn := fun x id ps b h => g.of _ (str_lookup h)
  cls := fun x c ps h => g.of _ (str_lookup h)
  mth := fun y i pss h c hc => m.of _ (str_lookup h) c hc
  cf := cf
  nn := nn
  con := fun x d h => g.of _ (str_lookup h)
  ats := fun f i h => ats.of _ (str_lookup h)
  exf := fun k f h => exf.of _ (nat_lookup h)
  len := len
  exc := fun x c ps h => let ⟨a, b, _⟩ := (show _ ∧ _ ∧ _ from g.of _ (str_lookup h)); ⟨a, b⟩
  ini := fun x c ps h h1 h2 X _ _ e1 e2 _ k hk => (show _ ∧ _ ∧ _ from g.of _ (str_lookup h)).2.2 h1 h2 X e1 e2 k hk
  ek := ek
  hK := hK
  hw := hw
  ck := ck
/-- a law's def, from all of them -/
theorem law_fnS {P : Program} {w : World} {K : PySem.W.Frag} {mg : Str → Option Value} {base : Heap} {Z : Zx} {L : Lm} {F : Nat → Option Fn} {exs : List Nat} (M : ModF P w K mg base Z L F exs) {id : Nat} {ps : List Str} (e : DefE K Z L F id ps) (rp : PyData → Str) (turns d : Nat) :
    ∃ fd, FnS P w K mg base Z (2 * d + 1) (Z.fnA id) fd ps ((run F exs rp turns d).call id) ∧ Binds K fd ps [] :=
  let ⟨fd, a, b, _⟩ := fnS_all M (rp := rp) (turns := turns) d id ps e
  ⟨fd, a, b⟩
end Sv
end -- Sem39
section -- Hdk77
set_option Elab.async false
set_option linter.all false
set_option maxRecDepth 100000
set_option maxHeartbeats 0
namespace Sv.Lw
open PySem PySem.Spec PyProof.Rows L2 Sv
def top (i : Nat) : Stmt := PySem.Challenge.pw_seenbefore_k77_streams_written_and_read.main.body.getD i (.Pass ⟨0, 0, 0, 0⟩)
def clm (i j : Nat) : Stmt := match top i with
  | .ClassDef _ _ _ b _ _ _ _ _ _ _ => b.getD j (.Pass ⟨0, 0, 0, 0⟩)
  | s => s
def gl0 : List (Str × GV) := [("ParseError", .exc 7 ["line"]), ("MAX_VALUE", .con (.int 999999999999999999999999999999999999999999999999999999999999)), ("DIGITS", .con (.str "0123456789")), ("MAX_DIGITS", .con (.int 60)), ("format_stream", .fn 180 ["stream"] false), ("number_in", .fn 156 ["word", "most"] false), ("value_in", .fn 181 ["word"] false), ("parse_stream", .fn 182 ["text", "words"] false), ("_law_pen", .fn 68 ["script"] false), ("_law_fresh", .fn 69 ["pen"] false), ("_law_draw", .fn 70 ["pen", "many"] false), ("_law_stream", .fn 88 ["pen", "words", "most", "values"] false), ("_law_text", .fn 183 ["stream"] false), ("_law_is_number", .fn 184 ["word", "digits"] false), ("_law_good", .fn 185 ["text", "many"] false), ("_law_raised", .fn 177 ["text", "many"] false), ("law", .fn 71 ["script"] false)]
def ms0 : List (Str × Nat × List (List Str)) := [("__len__", 0, []), ("__init__", 1, []), ("require_state", 2, []), ("add_state", 3, []), ("set_verdict", 4, []), ("is_test", 5, []), ("are_sources", 6, []), ("add_rule", 7, []), ("has_rule", 8, []), ("remove_rule", 9, []), ("verdicts", 10, []), ("held_counts", 11, []), ("rules", 12, []), ("rule_for", 13, []), ("twin", 14, []), ("sources_in", 15, []), ("orders_between", 16, []), ("place_target", 17, []), ("walk", 18, []), ("walk_from", 19, [])]
def ms1 : List (Str × Nat × List (List Str)) := [("built", 20, []), ("pair", 21, []), ("watcher_of", 22, []), ("checkpoint", 23, []), ("restore", 24, []), ("decide", 25, []), ("record", 26, []), ("recorded", 27, []), ("standing", 28, []), ("read", 29, []), ("current_state", 30, []), ("current_verdict", 31, []), ("held_values", 32, []), ("rewind", 33, [])]
def L : Lm := ⟨gl0, [], ms0 ++ ms1, [(7, "line")]⟩
def d0 : He.DefD := ⟨("format_stream", none), "format_stream", "format_stream", defArgs (top 6), defBody (top 6), defScope (top 6), [], []⟩
def d1 : He.DefD := ⟨("number_in", none), "number_in", "number_in", defArgs (top 7), defBody (top 7), defScope (top 7), [], []⟩
def d2 : He.DefD := ⟨("value_in", none), "value_in", "value_in", defArgs (top 8), defBody (top 8), defScope (top 8), [], []⟩
def d3 : He.DefD := ⟨("parse_stream", none), "parse_stream", "parse_stream", defArgs (top 9), defBody (top 9), defScope (top 9), [], []⟩
def d4 : He.DefD := ⟨("_law_pen", none), "_law_pen", "_law_pen", defArgs (top 11), defBody (top 11), defScope (top 11), [], []⟩
def d5 : He.DefD := ⟨("_law_fresh", none), "_law_fresh", "_law_fresh", defArgs (top 12), defBody (top 12), defScope (top 12), [], []⟩
def d6 : He.DefD := ⟨("_law_draw", none), "_law_draw", "_law_draw", defArgs (top 13), defBody (top 13), defScope (top 13), [], []⟩
def d7 : He.DefD := ⟨("_law_stream", none), "_law_stream", "_law_stream", defArgs (top 14), defBody (top 14), defScope (top 14), [], []⟩
def d8 : He.DefD := ⟨("_law_text", none), "_law_text", "_law_text", defArgs (top 15), defBody (top 15), defScope (top 15), [], []⟩
def d9 : He.DefD := ⟨("_law_is_number", none), "_law_is_number", "_law_is_number", defArgs (top 16), defBody (top 16), defScope (top 16), [], []⟩
def d10 : He.DefD := ⟨("_law_good", none), "_law_good", "_law_good", defArgs (top 17), defBody (top 17), defScope (top 17), [], []⟩
def d11 : He.DefD := ⟨("_law_raised", none), "_law_raised", "_law_raised", defArgs (top 18), defBody (top 18), defScope (top 18), [], []⟩
def d12 : He.DefD := ⟨("law", none), "law", "law", defArgs (top 19), defBody (top 19), defScope (top 19), [], []⟩
def d13 : He.DefD := ⟨("ParseError", some "__init__"), "__init__", "ParseError.__init__", defArgs (clm 1 0), defBody (clm 1 0), defScope (clm 1 0), [], []⟩
def fnL : List He.DefD := ([d0, d1, d2, d3, d4, d5, d6, d7, d8, d9, d10, d11, d12, d13] : List He.DefD)
def faL : List He.Fa := ([.glo "ParseError", .int "MAX_VALUE" 999999999999999999999999999999999999999999999999999999999999, .str "DIGITS" "0123456789", .int "MAX_DIGITS" 60, .glo "format_stream", .glo "number_in", .glo "value_in", .glo "parse_stream", .glo "_law_pen", .glo "_law_fresh", .glo "_law_draw", .glo "_law_stream", .glo "_law_text", .glo "_law_is_number", .glo "_law_good", .glo "_law_raised", .glo "law", .free "len", .free "list", .free "tuple"] : List He.Fa) ++ ([.free "dict", .free "sorted", .free "abs", .free "int", .free "str", .free "repr", .free "all", .free "sum", .free "min", .free "max", .free "range", .free "enumerate", .free "zip", .free "isinstance", .free "set", .free "bool", .free "ValueError"] : List He.Fa)
def atT : Nat → Str × Option Str := fun id => ((([(180, ("format_stream", none)), (156, ("number_in", none)), (181, ("value_in", none)), (182, ("parse_stream", none)), (68, ("_law_pen", none)), (69, ("_law_fresh", none)), (70, ("_law_draw", none)), (88, ("_law_stream", none)), (183, ("_law_text", none)), (184, ("_law_is_number", none)), (185, ("_law_good", none)), (177, ("_law_raised", none)), (71, ("law", none))] : List (Nat × Str × Option Str))).lookup id).getD ("", none)
def exN : Nat → Str := fun c => (([(7, "ParseError")] : List (Nat × Str)).lookup c).getD ""
def clN : Nat → Str := fun c => (([] : List (Nat × Str)).lookup c).getD ""
def atN : Nat → Str := fun c => (([] : List (Nat × Str)).lookup c).getD ""
def exT (K : PySem.W.Frag) : Bool := veB K && (exB K (He.ga K "ParseError") "line" && (ekB K (fun c => He.ga K (exN c)) [7]))
def Zw (K : PySem.W.Frag) (w : World) : Zx where
  K := K
  w := w
  fnA := fun id => He.fAd K (atT id)
  clA := fun c => He.ga K (clN c)
  exA := fun c => He.ga K (exN c)
  atN := atN
  exF := fun c => (L.efs.lookup c).toList
  cs := []
  ats := []
  cloS := fun _ _ _ _ _ _ => False
theorem c_180 : Cmp L ["stream"] (defBody (top 6)) (defScope (top 6)) f_180 := Cmp.mk' (N := ["stream", "word", "value"]) (fps := []) 200 180 ⟨rfl, rfl, rfl, by decide +kernel, rfl, by decide +kernel, by decide +kernel⟩ rfl rfl rfl (by kernel_rfl) (by kernel_rfl)
theorem c_156 : Cmp L ["word", "most"] (defBody (top 7)) (defScope (top 7)) f_156 := Cmp.mk' (N := ["word", "most", "sign"]) (fps := []) 200 156 ⟨rfl, rfl, rfl, by decide +kernel, rfl, by decide +kernel, by decide +kernel⟩ rfl rfl rfl (by kernel_rfl) (by kernel_rfl)
theorem c_181 : Cmp L ["word"] (defBody (top 8)) (defScope (top 8)) f_181 := Cmp.mk' (N := ["word", "found"]) (fps := []) 200 181 ⟨rfl, rfl, rfl, by decide +kernel, rfl, by decide +kernel, by decide +kernel⟩ rfl rfl rfl (by kernel_rfl) (by kernel_rfl)
theorem c_182 : Cmp L ["text", "words"] (defBody (top 9)) (defScope (top 9)) f_182 := Cmp.mk' (N := ["text", "words", "found", "part", "sides", "word", "value"]) (fps := []) 200 182 ⟨rfl, rfl, rfl, by decide +kernel, rfl, by decide +kernel, by decide +kernel⟩ rfl rfl rfl (by kernel_rfl) (by kernel_rfl)
theorem c_68 : Cmp L ["script"] (defBody (top 11)) (defScope (top 11)) f_68 := Cmp.mk' (N := ["script"]) (fps := []) 200 68 ⟨rfl, rfl, rfl, by decide +kernel, rfl, by decide +kernel, by decide +kernel⟩ rfl rfl rfl (by kernel_rfl) (by kernel_rfl)
theorem c_69 : Cmp L ["pen"] (defBody (top 12)) (defScope (top 12)) f_69 := Cmp.mk' (N := ["pen", "at", "cell", "p", "state", "found", "turn"]) (fps := []) 200 69 ⟨rfl, rfl, rfl, by decide +kernel, rfl, by decide +kernel, by decide +kernel⟩ rfl rfl rfl (by kernel_rfl) (by kernel_rfl)
theorem c_70 : Cmp L ["pen", "many"] (defBody (top 13)) (defScope (top 13)) f_70 := Cmp.mk' (N := ["pen", "many", "digit"]) (fps := []) 200 70 ⟨rfl, rfl, rfl, by decide +kernel, rfl, by decide +kernel, by decide +kernel⟩ rfl rfl rfl (by kernel_rfl) (by kernel_rfl)
theorem c_88 : Cmp L ["pen", "words", "most", "values"] (defBody (top 14)) (defScope (top 14)) f_88 := Cmp.mk' (N := ["pen", "words", "most", "values", "large", "found", "lap"]) (fps := []) 200 88 ⟨rfl, rfl, rfl, by decide +kernel, rfl, by decide +kernel, by decide +kernel⟩ rfl rfl rfl (by kernel_rfl) (by kernel_rfl)
theorem c_183 : Cmp L ["stream"] (defBody (top 15)) (defScope (top 15)) f_183 := Cmp.mk' (N := ["stream", "word", "value"]) (fps := []) 200 183 ⟨rfl, rfl, rfl, by decide +kernel, rfl, by decide +kernel, by decide +kernel⟩ rfl rfl rfl (by kernel_rfl) (by kernel_rfl)
theorem c_184 : Cmp L ["word", "digits"] (defBody (top 16)) (defScope (top 16)) f_184 := Cmp.mk' (N := ["word", "digits", "sign"]) (fps := []) 200 184 ⟨rfl, rfl, rfl, by decide +kernel, rfl, by decide +kernel, by decide +kernel⟩ rfl rfl rfl (by kernel_rfl) (by kernel_rfl)
theorem c_185 : Cmp L ["text", "many"] (defBody (top 17)) (defScope (top 17)) f_185 := Cmp.mk' (N := ["text", "many", "part", "sides", "value"]) (fps := []) 200 185 ⟨rfl, rfl, rfl, by decide +kernel, rfl, by decide +kernel, by decide +kernel⟩ rfl rfl rfl (by kernel_rfl) (by kernel_rfl)
theorem c_177 : Cmp L ["text", "many"] (defBody (top 18)) (defScope (top 18)) f_177 := Cmp.mk' (N := ["text", "many", "found", "e"]) (fps := []) 200 177 ⟨rfl, rfl, rfl, by decide +kernel, rfl, by decide +kernel, by decide +kernel⟩ rfl rfl rfl (by kernel_rfl) (by kernel_rfl)
theorem c_71 : Cmp L ["script"] (defBody (top 19)) (defScope (top 19)) f_71 := Cmp.mk' (N := ["script", "pen", "turn", "many", "stream", "value", "page", "place", "sign", "due", "odd"]) (fps := []) 200 71 ⟨rfl, rfl, rfl, by decide +kernel, rfl, by decide +kernel, by decide +kernel⟩ rfl rfl rfl (by kernel_rfl) (by kernel_rfl)
section
variable {P : Program} {w : World} {K : PySem.W.Frag} {h base : Heap} {mg : Str → Option Value}
theorem e_180 (c : He.SaysD faL fnL K) : DefE K (Zw K w) L F 180 ["stream"] := by
  obtain ⟨fd, Fd⟩ := c.def_ 0 (d := d0) rfl
  have Fd : FunD K "format_stream" "format_stream" (defArgs (top 6)) (defBody (top 6)) (defScope (top 6)) [] [] ((Zw K w).fnA 180) fd := Fd
  exact ⟨_, _, _, _, _, fd, Fd, Fd.bindsN fun _ _ _ _ _ _ us hl => match us, hl with | [_], _ => rfl, fun fn e => by cases e; exact c_180⟩
theorem e_156 (c : He.SaysD faL fnL K) : DefE K (Zw K w) L F 156 ["word", "most"] := by
  obtain ⟨fd, Fd⟩ := c.def_ 1 (d := d1) rfl
  have Fd : FunD K "number_in" "number_in" (defArgs (top 7)) (defBody (top 7)) (defScope (top 7)) [] [] ((Zw K w).fnA 156) fd := Fd
  exact ⟨_, _, _, _, _, fd, Fd, Fd.bindsN fun _ _ _ _ _ _ us hl => match us, hl with | [_, _], _ => rfl, fun fn e => by cases e; exact c_156⟩
theorem e_181 (c : He.SaysD faL fnL K) : DefE K (Zw K w) L F 181 ["word"] := by
  obtain ⟨fd, Fd⟩ := c.def_ 2 (d := d2) rfl
  have Fd : FunD K "value_in" "value_in" (defArgs (top 8)) (defBody (top 8)) (defScope (top 8)) [] [] ((Zw K w).fnA 181) fd := Fd
  exact ⟨_, _, _, _, _, fd, Fd, Fd.bindsN fun _ _ _ _ _ _ us hl => match us, hl with | [_], _ => rfl, fun fn e => by cases e; exact c_181⟩
theorem e_182 (c : He.SaysD faL fnL K) : DefE K (Zw K w) L F 182 ["text", "words"] := by
  obtain ⟨fd, Fd⟩ := c.def_ 3 (d := d3) rfl
  have Fd : FunD K "parse_stream" "parse_stream" (defArgs (top 9)) (defBody (top 9)) (defScope (top 9)) [] [] ((Zw K w).fnA 182) fd := Fd
  exact ⟨_, _, _, _, _, fd, Fd, Fd.bindsN fun _ _ _ _ _ _ us hl => match us, hl with | [_, _], _ => rfl, fun fn e => by cases e; exact c_182⟩
theorem e_68 (c : He.SaysD faL fnL K) : DefE K (Zw K w) L F 68 ["script"] := by
  obtain ⟨fd, Fd⟩ := c.def_ 4 (d := d4) rfl
  have Fd : FunD K "_law_pen" "_law_pen" (defArgs (top 11)) (defBody (top 11)) (defScope (top 11)) [] [] ((Zw K w).fnA 68) fd := Fd
  exact ⟨_, _, _, _, _, fd, Fd, Fd.bindsN fun _ _ _ _ _ _ us hl => match us, hl with | [_], _ => rfl, fun fn e => by cases e; exact c_68⟩
theorem e_69 (c : He.SaysD faL fnL K) : DefE K (Zw K w) L F 69 ["pen"] := by
  obtain ⟨fd, Fd⟩ := c.def_ 5 (d := d5) rfl
  have Fd : FunD K "_law_fresh" "_law_fresh" (defArgs (top 12)) (defBody (top 12)) (defScope (top 12)) [] [] ((Zw K w).fnA 69) fd := Fd
  exact ⟨_, _, _, _, _, fd, Fd, Fd.bindsN fun _ _ _ _ _ _ us hl => match us, hl with | [_], _ => rfl, fun fn e => by cases e; exact c_69⟩
theorem e_70 (c : He.SaysD faL fnL K) : DefE K (Zw K w) L F 70 ["pen", "many"] := by
  obtain ⟨fd, Fd⟩ := c.def_ 6 (d := d6) rfl
  have Fd : FunD K "_law_draw" "_law_draw" (defArgs (top 13)) (defBody (top 13)) (defScope (top 13)) [] [] ((Zw K w).fnA 70) fd := Fd
  exact ⟨_, _, _, _, _, fd, Fd, Fd.bindsN fun _ _ _ _ _ _ us hl => match us, hl with | [_, _], _ => rfl, fun fn e => by cases e; exact c_70⟩
theorem e_88 (c : He.SaysD faL fnL K) : DefE K (Zw K w) L F 88 ["pen", "words", "most", "values"] := by
  obtain ⟨fd, Fd⟩ := c.def_ 7 (d := d7) rfl
  have Fd : FunD K "_law_stream" "_law_stream" (defArgs (top 14)) (defBody (top 14)) (defScope (top 14)) [] [] ((Zw K w).fnA 88) fd := Fd
  exact ⟨_, _, _, _, _, fd, Fd, Fd.bindsN fun _ _ _ _ _ _ us hl => match us, hl with | [_, _, _, _], _ => rfl, fun fn e => by cases e; exact c_88⟩
theorem e_183 (c : He.SaysD faL fnL K) : DefE K (Zw K w) L F 183 ["stream"] := by
  obtain ⟨fd, Fd⟩ := c.def_ 8 (d := d8) rfl
  have Fd : FunD K "_law_text" "_law_text" (defArgs (top 15)) (defBody (top 15)) (defScope (top 15)) [] [] ((Zw K w).fnA 183) fd := Fd
  exact ⟨_, _, _, _, _, fd, Fd, Fd.bindsN fun _ _ _ _ _ _ us hl => match us, hl with | [_], _ => rfl, fun fn e => by cases e; exact c_183⟩
theorem e_184 (c : He.SaysD faL fnL K) : DefE K (Zw K w) L F 184 ["word", "digits"] := by
  obtain ⟨fd, Fd⟩ := c.def_ 9 (d := d9) rfl
  have Fd : FunD K "_law_is_number" "_law_is_number" (defArgs (top 16)) (defBody (top 16)) (defScope (top 16)) [] [] ((Zw K w).fnA 184) fd := Fd
  exact ⟨_, _, _, _, _, fd, Fd, Fd.bindsN fun _ _ _ _ _ _ us hl => match us, hl with | [_, _], _ => rfl, fun fn e => by cases e; exact c_184⟩
theorem e_185 (c : He.SaysD faL fnL K) : DefE K (Zw K w) L F 185 ["text", "many"] := by
  obtain ⟨fd, Fd⟩ := c.def_ 10 (d := d10) rfl
  have Fd : FunD K "_law_good" "_law_good" (defArgs (top 17)) (defBody (top 17)) (defScope (top 17)) [] [] ((Zw K w).fnA 185) fd := Fd
  exact ⟨_, _, _, _, _, fd, Fd, Fd.bindsN fun _ _ _ _ _ _ us hl => match us, hl with | [_, _], _ => rfl, fun fn e => by cases e; exact c_185⟩
theorem e_177 (c : He.SaysD faL fnL K) : DefE K (Zw K w) L F 177 ["text", "many"] := by
  obtain ⟨fd, Fd⟩ := c.def_ 11 (d := d11) rfl
  have Fd : FunD K "_law_raised" "_law_raised" (defArgs (top 18)) (defBody (top 18)) (defScope (top 18)) [] [] ((Zw K w).fnA 177) fd := Fd
  exact ⟨_, _, _, _, _, fd, Fd, Fd.bindsN fun _ _ _ _ _ _ us hl => match us, hl with | [_, _], _ => rfl, fun fn e => by cases e; exact c_177⟩
theorem e_71 (c : He.SaysD faL fnL K) : DefE K (Zw K w) L F 71 ["script"] := by
  obtain ⟨fd, Fd⟩ := c.def_ 12 (d := d12) rfl
  have Fd : FunD K "law" "law" (defArgs (top 19)) (defBody (top 19)) (defScope (top 19)) [] [] ((Zw K w).fnA 71) fd := Fd
  exact ⟨_, _, _, _, _, fd, Fd, Fd.bindsN fun _ _ _ _ _ _ us hl => match us, hl with | [_], _ => rfl, fun fn e => by cases e; exact c_71⟩
theorem x_7 (KX : K.In h) (G : h.Ns mainGlobals mg) (c : He.SaysD faL fnL K) (e : exT K = true) : ∀ X : Cx, X.K = K → X.mg = mg → ∀ k, 1 ≤ k → ExF X (Zw K w) k "ParseError" 7 := by
  intro X e1 e2 k hk
  subst e1
  subst e2
  obtain ⟨fd, Fd⟩ := c.def_ 13 (d := d13) rfl
  obtain ⟨v1, e⟩ := He.ba e
  obtain ⟨v2, e⟩ := He.ba e
  obtain ⟨b1, v2⟩ := He.ba v2
  obtain ⟨b2, v2⟩ := He.ba v2
  obtain ⟨b3, v2⟩ := He.ba v2
  obtain ⟨b4, b5⟩ := He.ba v2
  exact exF_of hk (He.glo_ok KX G (c.fact 0 (f := .glo "ParseError") rfl)) (oexB_ok b1) rfl (He.eqO_ok b3) (of_decide_eq_true b2) Fd (Fd.bindsN fun _ _ _ _ _ _ us hl => match us, hl with | [_, _], _ => rfl)
    ⟨rfl, rfl, rfl, by decide +kernel, rfl, by decide +kernel, by decide +kernel⟩ (by decide +kernel) (He.free_ok KX G (c.fact 36 (f := .free "ValueError") rfl)) (veB_ok v1) (He.eqO_ok b4) (by decide) (by decide +kernel) (fun X1 e1 e2 => msg_num (by rw [e1]; rfl) (by rw [e2]; exact .inl (by decide +kernel)) (by decide) (by decide) (by decide) (by decide)) (fun _ => rfl)
theorem g_0 (KX : K.In h) (G : h.Ns mainGlobals mg) (c : He.SaysD faL fnL K) (e : exT K = true) : AllP (GOk K mg (Zw K w) L F [7]) gl0 :=
  .cons ⟨He.glo_ok KX G (c.fact 0 (f := .glo "ParseError") rfl), by decide, fun _ _ => x_7 KX G c e⟩ (
  .cons (let ⟨t, q⟩ := He.int_ok KX G (c.fact 1 (f := .int "MAX_VALUE" 999999999999999999999999999999999999999999999999999999999999) rfl); ⟨_, .int 999999999999999999999999999999999999999999999999999999999999, q, ⟨t, rfl⟩, fun μ n H => rp_sc.2.1 _⟩) (
  .cons (let ⟨t, q⟩ := He.str_ok KX G (c.fact 2 (f := .str "DIGITS" "0123456789") rfl); ⟨_, .str "0123456789", q, ⟨t, rfl⟩, fun μ n H => rp_sc.2.2.1 _⟩) (
  .cons (let ⟨t, q⟩ := He.int_ok KX G (c.fact 3 (f := .int "MAX_DIGITS" 60) rfl); ⟨_, .int 60, q, ⟨t, rfl⟩, fun μ n H => rp_sc.2.1 _⟩) (
  .cons ⟨He.glo_ok KX G (c.fact 4 (f := .glo "format_stream") rfl), e_180 c⟩ (
  .cons ⟨He.glo_ok KX G (c.fact 5 (f := .glo "number_in") rfl), e_156 c⟩ (
  .cons ⟨He.glo_ok KX G (c.fact 6 (f := .glo "value_in") rfl), e_181 c⟩ (
  .cons ⟨He.glo_ok KX G (c.fact 7 (f := .glo "parse_stream") rfl), e_182 c⟩ (
  .cons ⟨He.glo_ok KX G (c.fact 8 (f := .glo "_law_pen") rfl), e_68 c⟩ (
  .cons ⟨He.glo_ok KX G (c.fact 9 (f := .glo "_law_fresh") rfl), e_69 c⟩ (
  .cons ⟨He.glo_ok KX G (c.fact 10 (f := .glo "_law_draw") rfl), e_70 c⟩ (
  .cons ⟨He.glo_ok KX G (c.fact 11 (f := .glo "_law_stream") rfl), e_88 c⟩ (
  .cons ⟨He.glo_ok KX G (c.fact 12 (f := .glo "_law_text") rfl), e_183 c⟩ (
  .cons ⟨He.glo_ok KX G (c.fact 13 (f := .glo "_law_is_number") rfl), e_184 c⟩ (
  .cons ⟨He.glo_ok KX G (c.fact 14 (f := .glo "_law_good") rfl), e_185 c⟩ (
  .cons ⟨He.glo_ok KX G (c.fact 15 (f := .glo "_law_raised") rfl), e_177 c⟩ (
  .cons ⟨He.glo_ok KX G (c.fact 16 (f := .glo "law") rfl), e_71 c⟩ (.nil)))))))))))))))))
theorem noM {m c : Nat} (h : (F (mid c m)).isSome = true) : False := by
  have key : ∀ p ∈ (([(180, f_180), (156, f_156), (181, f_181), (182, f_182), (68, f_68), (69, f_69), (70, f_70), (88, f_88), (183, f_183), (184, f_184), (185, f_185), (177, f_177), (71, f_71)] : List (Nat × Fn))), p.1 < 1000 := by
    intro p hp
    simp only [List.mem_append, List.mem_cons, List.not_mem_nil, or_false] at hp
    rcases hp with rfl | rfl | rfl | rfl | rfl | rfl | rfl | rfl | rfl | rfl | rfl | rfl | rfl <;> decide
  obtain ⟨fn, hf⟩ := Option.isSome_iff_exists.mp h
  have := key _ (nat_lookup hf)
  have : mid c m < 1000 := this
  unfold mid at this
  omega
theorem modF (KX : K.In h) (G : h.Ns mainGlobals mg) (c : He.SaysD faL fnL K) (e : exT K = true) : ModF P w K mg base (Zw K w) L F [7] := by
  have e0 := e
  obtain ⟨v1, e⟩ := He.ba e
  obtain ⟨v2, e⟩ := He.ba e
  obtain ⟨b1, v2⟩ := He.ba v2
  obtain ⟨b2, v2⟩ := He.ba v2
  obtain ⟨b3, v2⟩ := He.ba v2
  obtain ⟨b4, b5⟩ := He.ba v2
  refine modF_of (g_0 KX G c e0) ?_ ⟨fun c hc => (nomatch hc), fun c hc => (nomatch hc), fun f hf => nomatch hf⟩ (fun x hx hl => ?_) .nil (.cons ⟨xfB_ok b5, He.eqO_ok b4, rfl⟩ .nil) ⟨_, rfl⟩ (ekB_ok e) rfl rfl (cloKeep_no fun _ _ _ _ _ _ z => z)
  · have key : ∀ l : List (Str × Nat × List (List Str)), AllP (MOk K (Zw K w) L F) l := fun l => by
      induction l with
      | nil => exact .nil
      | cons p r ih => exact .cons (fun c hc => (noM hc).elim) ih
    exact key _
  · unfold bnames at hx
    simp only [List.mem_cons, List.not_mem_nil, or_false] at hx
    rcases hx with rfl | rfl | rfl | rfl | rfl | rfl | rfl | rfl | rfl | rfl | rfl | rfl | rfl | rfl | rfl | rfl | rfl | rfl | rfl
    · exact He.free_ok KX G (c.fact 17 (f := .free "len") rfl)
    · exact He.free_ok KX G (c.fact 18 (f := .free "list") rfl)
    · exact He.free_ok KX G (c.fact 19 (f := .free "tuple") rfl)
    · exact He.free_ok KX G (c.fact 20 (f := .free "dict") rfl)
    · exact He.free_ok KX G (c.fact 21 (f := .free "sorted") rfl)
    · exact He.free_ok KX G (c.fact 22 (f := .free "abs") rfl)
    · exact He.free_ok KX G (c.fact 23 (f := .free "int") rfl)
    · exact He.free_ok KX G (c.fact 24 (f := .free "str") rfl)
    · exact He.free_ok KX G (c.fact 25 (f := .free "repr") rfl)
    · exact He.free_ok KX G (c.fact 26 (f := .free "all") rfl)
    · exact He.free_ok KX G (c.fact 27 (f := .free "sum") rfl)
    · exact He.free_ok KX G (c.fact 28 (f := .free "min") rfl)
    · exact He.free_ok KX G (c.fact 29 (f := .free "max") rfl)
    · exact He.free_ok KX G (c.fact 30 (f := .free "range") rfl)
    · exact He.free_ok KX G (c.fact 31 (f := .free "enumerate") rfl)
    · exact He.free_ok KX G (c.fact 32 (f := .free "zip") rfl)
    · exact He.free_ok KX G (c.fact 33 (f := .free "isinstance") rfl)
    · exact He.free_ok KX G (c.fact 34 (f := .free "set") rfl)
    · exact He.free_ok KX G (c.fact 35 (f := .free "bool") rfl)
end
abbrev RwL : PySem.W.OpenRow := PySem.W.OpenLaw.row PySem.Challenge.rw_seenbefore_k77_streams_written_and_read
abbrev hk : PySem.W.Hook := hookX 4 faL fnL exT
def ob (s : PySem.W.SharedT) : AlX := obsXG 4 faL fnL exT (HandSHeadRun.getT s)
theorem ob_eq (s : PySem.W.SharedT) : ob s = hk.obs s.abs := obsXG_eq (HandSHeadRun.getT_eq s)
def loose : List Str := (["ParseError", "MAX_VALUE", "DIGITS", "MAX_DIGITS", "format_stream", "number_in", "value_in", "parse_stream", "_law_pen", "_law_fresh", "_law_draw", "_law_stream", "_law_text", "_law_is_number", "_law_good", "_law_raised"] : List Str)
theorem runF (w : World) : HandSHeadRun.RunEq RwL (PySem.W.view RwL.prog [19]) hk ob 9000 loose (w.withFollow "special-get-raises" false) := by
  intro os
  kernel_rfl
theorem runT (w : World) : HandSHeadRun.RunEq RwL (PySem.W.view RwL.prog [19]) hk ob 9000 loose (w.withFollow "special-get-raises" true) := by
  intro os
  kernel_rfl
theorem run (w : World) : HandSHeadRun.RunEq RwL (PySem.W.view RwL.prog [19]) hk ob 9000 loose w := PySem.W.byRow2 "special-get-raises" (P := fun w => HandSHeadRun.RunEq RwL (PySem.W.view RwL.prog [19]) hk ob 9000 loose w) runF runT w
end Sv.Lw
end -- Hdk77
section -- Endk77
set_option Elab.async false
set_option linter.all false
set_option maxRecDepth 100000
set_option maxHeartbeats 0
namespace Sv.Lw
open PySem PySem.Spec PyProof.Rows L2 Sv PySem.W PySem.Calls
theorem end_ (hans : ∀ ns : List Int, ns.length ≤ 63 → ∃ t, (Sv.run F [7] (fun _ => ⟨#[]⟩) 100 8).call 71 [.ref 0] [] [.lst (ns.map .int)] [] = .ok (.bl true) t) : PySem.Challenge.rw_seenbefore_k77_streams_written_and_read.Holds := by
  w_on; o_law
  refine HandSHeadRun.head_any (r := RwL) (q := view RwL.prog [19]) (H := hk) (ob := ob) (M := 9000) (loose := loose) (d := HandSHeadRun.topDef RwL.prog 19) (kwd := []) ob_eq
    (by kernel_rfl) (fun s => by kernel_rfl) run (by kernel_rfl) (by kernel_rfl) (by kernel_rfl) (by rfl) (by first | assumption | decide +kernel) (by decide +kernel) ⟨rfl, rfl, rfl, rfl, rfl, by decide +kernel⟩ ?hw ?hc
  case hw => w_witness2
  case hc =>
    refine walk_S (l := PySem.Challenge.rw_seenbefore_k77_streams_written_and_read) (n := 63) (k := 2 * 8 + 1) (x := "script") rfl (by decide) (by kernel_rfl) ⟨rfl, by decide, by decide⟩ ?F
    intro w mg fa h Y G hmg0
    obtain ⟨K, KX, c, e, nl⟩ := Y
    have hmg : mg ("law" : PySem.Str) = some (.ref fa) := by
      have e : (HandSHeadRun.topDef RwL.prog 19).name = ("law" : PySem.Str) := by kernel_rfl
      rw [← e]
      exact hmg0
    have e1 := hmg.symm.trans (He.glo_ok KX G (c.fact 16 (f := .glo "law") rfl))
    cases e1
    exact ⟨K, Zw K w, (Sv.run F [7] (fun _ => ⟨#[]⟩) 100 8).call 71, KX, nl, hans, fun base hb hm => law_fnS (modF hb hm c e) (e_71 c) _ 100 8⟩
theorem holds : PySem.Challenge.rw_seenbefore_k77_streams_written_and_read.Holds := end_ law_k77
end Sv.Lw
end -- Endk77
open PySem PySem.W PyProof.Rows
theorem PySem.Challenge.cw_seenbefore_k77_streams_written_and_read_holds : PySem.Challenge.rw_seenbefore_k77_streams_written_and_read.Holds :=
  Sv.Lw.holds
